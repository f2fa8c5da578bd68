/- A part of a proof: lemmas and contracts of functions; the last text of the claim says what is proved. -/
import Derived.Test.YtnmfmeehmieifaaGreatX1876328b8e
import Derived.RangeFuncRecord
import Derived.Laws.Externs
set_option linter.unusedSectionVars false
set_option linter.unusedSimpArgs false
set_option linter.unusedVariables false
namespace Sg
open Go
set_option linter.unusedSectionVars false
variable [Glob]
mutual
def PV.sub (θ : TypeId → Nat → Nat → Nat → Option PV) : PV → PV
  | .sl e id off n => match θ e id off n with
    | some q => q
    | none => .sl e id off n
  | .fn f a c => .fn f (PV.subL θ a) (PV.subL θ c)
  | .iface t v => .iface t (v.sub θ)
  | .agg cs => .agg (PV.subL θ cs)
  | .tuple cs => .tuple (PV.subL θ cs)
  | .ptr id off => .ptr id off
  | .map id => .map id
  | .bool b => .bool b
  | .int k n => .int k n
  | .str s => .str s
  | .nilp => .nilp
  | .vptr cs => .vptr cs
  | .kptr b o => .kptr b o
  | .rows e r => .rows e r
  | .emp => .emp
  | .nilm => .nilm
  | .nilfn => .nilfn
  | .nilif => .nilif
  | .dead => .dead
def PV.subL (θ : TypeId → Nat → Nat → Nat → Option PV) : List PV → List PV
  | [] => []
  | x :: r => x.sub θ :: PV.subL θ r
end
omit [Glob] in
theorem subL_map (θ : TypeId → Nat → Nat → Nat → Option PV) (l : List PV) : PV.subL θ l = l.map (PV.sub θ) := by
  induction l with
  | nil => rfl
  | cons x r ih => simp [PV.subL, ih]
omit [Glob] in
theorem R.sub {P : Program} {g g' : Gh} {θ : TypeId → Nat → Nat → Nat → Option PV} {p : PV} {v : Value} (h : R P g p v) (hg : g.le g') (hθ : ∀ e id off n q u, θ e id off n = some q → R P g (.sl e id off n) u → R P g' q u) : R P g' (p.sub θ) v := by
  have lst : ∀ {cs : List PV} {vs : Array Value}, vs.size = cs.length → (∀ j (hj : j < cs.length), R P g' (cs[j].sub θ) (vs.getD j undef)) → vs.size = (PV.subL θ cs).length ∧ ∀ j (hj : j < (PV.subL θ cs).length), R P g' (PV.subL θ cs)[j] (vs.getD j undef) := by
    intro cs vs hl h
    refine ⟨by rw [subL_map]; simpa using hl, fun j hj => ?_⟩
    have hj' : j < cs.length := by rw [subL_map] at hj; simpa using hj
    have e : (PV.subL θ cs)[j] = (cs[j]).sub θ := by simp [subL_map]
    rw [e]; exact h j hj'
  have slc : ∀ {e id off n} {u : Value}, R P g (.sl e id off n) u → R P g' (PV.sub θ (.sl e id off n)) u := by
    intro e id off n u h
    simp only [PV.sub]
    cases hq : θ e id off n with
    | some q => exact hθ _ _ _ _ _ _ hq h
    | none => exact h.mono hg
  induction h with
  | sl e id off len cap b N T h hlc hc => exact slc (.sl e id off len cap b N T h hlc hc)
  | sl0 e id off a b T h => exact slc (.sl0 e id off a b T h)
  | fn f a c va vc ha hc _ _ ih1 ih2 =>
    obtain ⟨a1, a2⟩ := lst ha ih1
    obtain ⟨c1, c2⟩ := lst hc ih2
    exact .fn f _ _ va vc a1 c1 a2 c2
  | iface t v u _ ih => exact .iface t _ u ih
  | agg cs vs hl _ ih => obtain ⟨a1, a2⟩ := lst hl ih; exact .agg _ vs a1 a2
  | tuple cs vs hl _ ih => obtain ⟨a1, a2⟩ := lst hl ih; exact .tuple _ vs a1 a2
  | ptr id off b N T h => exact (R.ptr id off b N T h).mono hg
  | map id b N T h => exact (R.map id b N T h).mono hg
  | vptr cs b off arr T fr h hn hp hr _ => exact (R.vptr cs b off arr T fr h hn hp hr).mono hg
  | rows e r b off cap arr T fr h hes hc hn hl hp hce hr _ => exact (R.rows e r b off cap arr T fr h hes hc hn hl hp hce hr).mono hg
  | kptr b o => exact .kptr b o
  | rows0 e a cap => exact .rows0 e a cap
  | emp a => exact .emp a
  | bool b => exact .bool b
  | int k n => exact .int k n
  | str s => exact .str s
  | nilp => exact .nilp
  | nilm => exact .nilm
  | nilfn => exact .nilfn
  | nilif => exact .nilif
  | dead v => exact .dead v
omit [Glob] in
theorem RL.sub {P : Program} {g g' : Gh} {θ : TypeId → Nat → Nat → Nat → Option PV} {l : List PV} {vs : Array Value} (h : RL P g l vs) (hg : g.le g') (hθ : ∀ e id off n q u, θ e id off n = some q → R P g (.sl e id off n) u → R P g' q u) : RL P g' (PV.subL θ l) vs := by
  refine ⟨by rw [subL_map]; simpa using h.1, fun j hj => ?_⟩
  have hj' : j < l.length := by rw [subL_map] at hj; simpa using hj
  have e : (PV.subL θ l)[j] = (l[j]).sub θ := by simp [subL_map]
  rw [e]; exact (h.2 j hj').sub hg hθ
mutual
def PV.flat : PV → Bool
  | .rows _ _ | .vptr _ => false
  | .fn _ a c => PV.flatL a && PV.flatL c
  | .iface _ v => v.flat
  | .agg cs | .tuple cs => PV.flatL cs
  | _ => true
def PV.flatL : List PV → Bool
  | [] => true
  | x :: r => x.flat && PV.flatL r
end
omit [Glob] in
theorem flatL_iff (l : List PV) : PV.flatL l = true ↔ ∀ x ∈ l, x.flat = true := by
  induction l with
  | nil => simp [PV.flatL]
  | cons x r ih => simp [PV.flatL, ih]
omit [Glob] in
theorem R.flatH {P : Program} {g g' : Gh} {p : PV} {v : Value} (h : R P g p v) (hio : g'.io = g.io) : p.flat = true → R P g' p v := by
  induction h with
  | vptr => intro h; simp [PV.flat] at h
  | rows => intro h; simp [PV.flat] at h
  | rows0 => intro h; simp [PV.flat] at h
  | kptr b o => exact fun _ => .kptr b o
  | sl e id off len cap b N T h hlc hc => exact fun _ => .sl e id off len cap b N T (by rw [hio]; exact h) hlc hc
  | sl0 e id off a b T h => exact fun _ => .sl0 e id off a b T (by rw [hio]; exact h)
  | ptr id off b N T h => exact fun _ => .ptr id off b N T (by rw [hio]; exact h)
  | map id b N T h => exact fun _ => .map id b N T (by rw [hio]; exact h)
  | fn f a c va vc ha hc _ _ ih1 ih2 =>
    intro h
    simp only [PV.flat, Bool.and_eq_true] at h
    exact .fn f a c va vc ha hc (fun j hj => ih1 j hj ((flatL_iff _).1 h.1 _ (List.getElem_mem hj))) (fun j hj => ih2 j hj ((flatL_iff _).1 h.2 _ (List.getElem_mem hj)))
  | iface t v u _ ih => exact fun h => .iface t v u (ih h)
  | agg cs vs hl _ ih => exact fun h => .agg cs vs hl (fun j hj => ih j hj ((flatL_iff _).1 h _ (List.getElem_mem hj)))
  | tuple cs vs hl _ ih => exact fun h => .tuple cs vs hl (fun j hj => ih j hj ((flatL_iff _).1 h _ (List.getElem_mem hj)))
  | bool b => exact fun _ => .bool b
  | int k n => exact fun _ => .int k n
  | str s => exact fun _ => .str s
  | nilp => exact fun _ => .nilp
  | emp a => exact fun _ => .emp a
  | nilm => exact fun _ => .nilm
  | nilfn => exact fun _ => .nilfn
  | nilif => exact fun _ => .nilif
  | dead v => exact fun _ => .dead v
def RowsOf (P : Program) (f : Nat → Option AObj) (e : TypeId) (id off n : Nat) (r : List (List PV)) : Prop :=
  0 < P.cellsOf e ∧ r.length = n ∧ (∀ c ∈ r, c.length = P.cellsOf e ∧ PV.pureL c = true) ∧ ∃ T cs, f id = some (.cells T cs) ∧ off + n * P.cellsOf e ≤ cs.length ∧ (cs.drop off).take (n * P.cellsOf e) = r.flatten
theorem rows_of_sl {P : Program} {g g' : Gh} {σ : Store} {w : World} (hi : Inv P g σ w) (hg : g.le g') {e : TypeId} {id off n : Nat} {r : List (List PV)} (hr : RowsOf P σ.f e id off n r)
    (hH : ∀ b N T, g.io id = some (b, N, T) → 0 < N → g'.H b = w.heap[b]?) {v : Value} (hv : R P g (.sl e id off n) v) : R P g' (.rows e r) v := by
  obtain ⟨hes, hl, hc, T', cs, ho, hle, hfl⟩ := hr
  cases hv with
  | sl0 _ _ _ a b T hio =>
    have : r = [] := List.eq_nil_of_length_eq_zero hl
    subst this
    exact .rows0 e a 0
  | sl _ _ _ _ cap b N T hio hlc hcc =>
    obtain ⟨rfl, arr, hN, hh, hcs, hrr⟩ := cells_at hi ho hio
    by_cases h0 : n = 0
    · subst h0
      have : r = [] := List.eq_nil_of_length_eq_zero hl
      subst this
      exact .rows0 e _ cap
    · have hpos : 0 < n * P.cellsOf e := Nat.mul_pos (Nat.pos_of_ne_zero h0) hes
      have hh := hh.resolve_left (by omega)
      have hHb := hH b N T hio (by omega)
      rw [hh] at hHb
      rw [← hl] at hle hfl hlc ⊢
      have hfl' : r.flatten.length = r.length * P.cellsOf e := flatten_len _ r (fun c hc' => (hc c hc').1)
      have key : ∀ i j (hi' : i < r.length) (hj : j < (r[i]).length), ∃ (h1 : off + i * P.cellsOf e + j < cs.length), r[i][j] = cs[off + i * P.cellsOf e + j] := by
        intro i j hi' hj
        have hci := (hc _ (List.getElem_mem hi')).1
        have hm : (i + 1) * P.cellsOf e ≤ r.length * P.cellsOf e := Nat.mul_le_mul_right _ hi'
        rw [Nat.add_mul] at hm
        have hlt : i * P.cellsOf e + j < r.flatten.length := by rw [hfl']; omega
        obtain ⟨k1, k2, k3⟩ := flatten_get _ hes r (fun c hc' => (hc c hc').1) (i * P.cellsOf e + j) hlt
        have d1 : (i * P.cellsOf e + j) / P.cellsOf e = i := by rw [Nat.mul_comm, Nat.mul_add_div hes]; rw [Nat.div_eq_of_lt (by omega)]; omega
        have d2 : (i * P.cellsOf e + j) % P.cellsOf e = j := by rw [Nat.mul_comm, Nat.mul_add_mod]; exact Nat.mod_eq_of_lt (by omega)
        refine ⟨by omega, ?_⟩
        have e1 : r.flatten[i * P.cellsOf e + j] = r[i][j] := by rw [k3]; congr 1 <;> simp [d1, d2]
        rw [← e1]
        have e2 : r.flatten[i * P.cellsOf e + j] = ((cs.drop off).take (r.length * P.cellsOf e))[i * P.cellsOf e + j]'(by rw [hfl]; exact hlt) := by congr 1; exact hfl.symm
        rw [e2]
        simp [Nat.add_assoc]
      refine .rows e r b off cap arr T (0, 0) hHb hes hlc (by omega) (fun c hc' => (hc c hc').1) (fun c hc' => (hc c hc').2) ?_ ?_
      · intro c hc' x hx
        obtain ⟨i, hi', rfl⟩ := List.getElem_of_mem hc'
        obtain ⟨j, hj, rfl⟩ := List.getElem_of_mem hx
        obtain ⟨k1, k2⟩ := key i j hi' hj
        rw [k2]; exact (hrr _ k1).2
      · intro i j hi' hj
        obtain ⟨k1, k2⟩ := key i j hi' hj
        rw [k2]
        exact (hrr _ k1).1.mono hg
def subObj (θ : TypeId → Nat → Nat → Nat → Option PV) : AObj → AObj
  | .cells T cs => .cells T (PV.subL θ cs)
  | .map es => .map (es.map fun x => (x.1.sub θ, x.2.sub θ))
  | .loop b d st pend fn N env ps as body => .loop b d st pend fn N (mapE (PV.sub θ) env) ps as body
  | .dfr b => .dfr b
def subAL (θ : TypeId → Nat → Nat → Nat → Option PV) : List (Nat × AObj) → List (Nat × AObj)
  | [] => []
  | (k, o) :: r => (k, subObj θ o) :: subAL θ r
def subE (θ : TypeId → Nat → Nat → Nat → Option PV) : Env → Env
  | [] => []
  | (k, p) :: r => (k, p.sub θ) :: subE θ r
def dels : List Nat → List (Nat × AObj) → List (Nat × AObj)
  | [], l => l
  | i :: r, l => dels r (dell i l)
def thOf : List (TypeId × Nat × Nat × Nat × List (List PV)) → TypeId → Nat → Nat → Nat → Option PV
  | [], _, _, _, _ => none
  | (e', id', off', n', r) :: t, e, id, off, n => if e' = e ∧ id' = id ∧ off' = off ∧ n' = n then some (.rows e r) else thOf t e id off n
def MS.frz (s : MS) (fz : List Nat) (t : List (TypeId × Nat × Nat × Nat × List (List PV))) : MS :=
  { s with env := subE (thOf t) s.env, l := subAL (thOf t) (dels fz s.l) }
omit [Glob] in
theorem lk_subAL {θ : TypeId → Nat → Nat → Nat → Option PV} (i : Nat) : (l : List (Nat × AObj)) → lk i (subAL θ l) = (lk i l).map (subObj θ)
  | [] => rfl
  | (k, o) :: r => by
    simp only [subAL, lk]
    split
    · rfl
    · exact lk_subAL i r
omit [Glob] in
theorem get_subE {θ : TypeId → Nat → Nat → Nat → Option PV} (t : Nat) : (e : Env) → get (subE θ e) t = (get e t).map (PV.sub θ)
  | [] => rfl
  | (k, o) :: r => by
    simp only [subE, get]
    split
    · rfl
    · exact get_subE t r
omit [Glob] in
theorem lk_dels (i : Nat) : (fz : List Nat) → (l : List (Nat × AObj)) → lk i (dels fz l) = if i ∈ fz then none else lk i l
  | [], l => by simp [dels]
  | j :: r, l => by
    simp only [dels, lk_dels i r, lk_dell]
    by_cases h1 : i ∈ r
    · simp [h1]
    · by_cases h2 : i = j
      · subst h2; simp
      · simp [h1, h2, fun h => h2 (Eq.symm h)]
        intro h; exact absurd h.symm h2
omit [Glob] in
theorem thOf_some {t : List (TypeId × Nat × Nat × Nat × List (List PV))} {e id off n : Nat} {q : PV} (h : thOf t e id off n = some q) : ∃ r, (e, id, off, n, r) ∈ t ∧ q = .rows e r := by
  induction t with
  | nil => simp [thOf] at h
  | cons x t ih =>
    obtain ⟨e', id', off', n', r⟩ := x
    simp only [thOf] at h
    split at h
    · rename_i hc
      obtain ⟨rfl, rfl, rfl, rfl⟩ := hc
      injection h with h; subst h
      exact ⟨r, by simp, rfl⟩
    · obtain ⟨r', h1, h2⟩ := ih h
      exact ⟨r', by simp [h1], h2⟩
omit [Glob] in
theorem sub_cell (θ : TypeId → Nat → Nat → Nat → Option PV) (hθ : ∀ e id off n q, θ e id off n = some q → q.cell = true) (p : PV) (h : p.cell = true) : (p.sub θ).cell = true := by
  cases p with
  | sl e id off n =>
    simp only [PV.sub]
    cases hq : θ e id off n with
    | some q => exact hθ _ _ _ _ _ hq
    | none => rfl
  | agg => simp [PV.cell] at h
  | tuple => simp [PV.cell] at h
  | dead => simp [PV.cell] at h
  | _ => rfl
omit [Glob] in
theorem sub_pure (θ : TypeId → Nat → Nat → Nat → Option PV) (p : PV) (h : p.pure = true) : p.sub θ = p := go p h
where
  go : (p : PV) → p.pure = true → p.sub θ = p
    | .bool _, _ | .int _ _, _ | .str _, _ | .nilp, _ | .vptr _, _ | .kptr _ _, _ | .rows _ _, _ | .emp, _ | .nilm, _ | .nilfn, _ | .nilif, _ => rfl
    | .ptr _ _, h | .sl _ _ _ _, h | .map _, h | .dead, h => by simp [PV.pure] at h
    | .fn _ a c, h => by simp only [PV.pure, Bool.and_eq_true] at h; simp only [PV.sub, goL a h.1, goL c h.2]
    | .iface _ v, h => by simp only [PV.sub, go v h]
    | .agg cs, h => by simp only [PV.sub, goL cs h]
    | .tuple cs, h => by simp only [PV.sub, goL cs h]
  goL : (l : List PV) → PV.pureL l = true → PV.subL θ l = l
    | [], _ => rfl
    | x :: r, h => by simp only [PV.pureL, Bool.and_eq_true] at h; simp only [PV.subL, go x h.1, goL r h.2]
section
variable {P : Program} {r : Option Nat} {N : Nat}
theorem wpA_turn {c : Code} {st st' : St} {Q : ExitA → St → Prop} (h : ∀ g w a, RA P g N st a → Inv P g st.σ w → ∃ g', g.le g' ∧ RA P g' N st' a ∧ Inv P g' st'.σ w) (hw : wpA P r N c st' Q) : wpA P r N c st Q := by
  intro g w a ha hi
  obtain ⟨g', h1, h2, h3⟩ := h g w a ha hi
  exact wpIn_mono (hw g' w a h2 h3) fun e a w => post_later h1 (.refl _) e a w
omit [Glob] in
theorem ObjOk.sub {g g' : Gh} {θ : TypeId → Nat → Nat → Nat → Option PV} {w : World} {id : Nat} {o : AObj} (h : ObjOk P g w id o) (hg : g.le g') (hio : g'.io = g.io) (hθ : ∀ e id off n q u, θ e id off n = some q → R P g (.sl e id off n) u → R P g' q u) (hc : ∀ e id off n q, θ e id off n = some q → q.cell = true) : ObjOk P g' w id (subObj θ o) := by
  cases o with
  | cells T cs =>
    obtain ⟨b, arr, h1, h2, h3, h4⟩ := h
    refine ⟨b, arr, by rw [hio]; exact h1, h2, by rw [subL_map]; simpa using h3, fun j hj => ?_⟩
    have hj' : j < cs.length := by rw [subL_map] at hj; simpa using hj
    have e : (PV.subL θ cs)[j] = (cs[j]).sub θ := by simp [subL_map]
    rw [e]
    exact ⟨(h4 j hj').1.sub hg hθ, sub_cell θ hc _ (h4 j hj').2⟩
  | map es =>
    obtain ⟨b, ms, c, h1, h2, h3, h4⟩ := h
    refine ⟨b, ms, c, by rw [hio]; exact h1, h2, by simpa [subObj] using h3, fun j hj => ?_⟩
    have hj' : j < es.length := by simpa [subObj] using hj
    have e : (es.map fun x => (x.1.sub θ, x.2.sub θ))[j]'(by simpa using hj') = ((es[j]).1.sub θ, (es[j]).2.sub θ) := by simp
    rw [e]
    obtain ⟨a1, a2, a3⟩ := h4 j hj'
    exact ⟨a1.sub hg hθ, a2.sub hg hθ, by show (es[j].1.sub θ).pure = true; rw [sub_pure θ _ a3]; exact a3⟩
  | loop b d st pend fn N env ps as body =>
    obtain ⟨h1, tmps, h2, h3, h4⟩ := h
    refine ⟨by rw [hio]; exact h1, tmps, h2, h3, fun t p e => ?_⟩
    rw [get_mapE, Option.map_eq_some_iff] at e
    obtain ⟨p0, e, rfl⟩ := e
    exact (h4 t p0 e).sub hg hθ
  | dfr b => exact ⟨by rw [hio]; exact h.1, h.2⟩
theorem frz_ok {s : MS} (fz : List Nat) (t : List (TypeId × Nat × Nat × Nat × List (List PV))) (hB : ∀ i ∈ fz, s.B ≤ i) (hr : ∀ x ∈ t, x.2.1 ∈ fz ∧ RowsOf P s.f x.1 x.2.1 x.2.2.1 x.2.2.2.1 x.2.2.2.2) {g : Gh} {w : World} {a : Act} (ha : RA P g N s.st a) (hi : Inv P g s.σ w) :
    ∃ g', g.le g' ∧ RA P g' N (s.frz fz t).st a ∧ Inv P g' (s.frz fz t).σ w := by
  classical
  let fb : Nat → Prop := fun b => ∃ id ∈ fz, (∃ o, s.f id = some o) ∧ ∃ N T, g.io id = some (b, N, T) ∧ 0 < N
  let g' : Gh := { io := g.io, H := fun b => if fb b then w.heap[b]? else g.H b }
  have hnone : ∀ b, fb b → g.H b = none := by
    rintro b ⟨id, _, ⟨o, ho⟩, N', T, hio, hN⟩
    exact hi.dis id o _ ho hio hN
  have hle : g.le g' := by
    refine ⟨fun _ _ h => h, fun b o h => ?_⟩
    show (if fb b then w.heap[b]? else g.H b) = some o
    rw [if_neg]
    · exact h
    · intro hb; rw [hnone b hb] at h; cases h
  have hθ : ∀ e id off n q u, thOf t e id off n = some q → R P g (.sl e id off n) u → R P g' q u := by
    intro e id off n q u h hu
    obtain ⟨r', hm, rfl⟩ := thOf_some h
    obtain ⟨hf, hro⟩ := hr _ hm
    refine rows_of_sl hi hle (σ := s.σ) hro ?_ hu
    intro b N' T hio hN
    obtain ⟨_, _, _, T', cs, ho, _⟩ := hro
    show (if fb b then w.heap[b]? else g.H b) = w.heap[b]?
    rw [if_pos]
    exact ⟨id, hf, ⟨_, ho⟩, N', T, hio, hN⟩
  have hc : ∀ e id off n q, thOf t e id off n = some q → q.cell = true := by
    intro e id off n q h
    obtain ⟨r', _, rfl⟩ := thOf_some h
    rfl
  have hf : ∀ i o, (s.frz fz t).f i = some o → i ∉ fz ∧ ∃ o0, s.f i = some o0 ∧ (o = subObj (thOf t) o0 ∨ o = o0) := by
    intro i o h
    have h : (match (if i ∈ fz then none else lk i s.l).map (subObj (thOf t)) with | some o => some o | none => if i < s.B then s.f0 i else none) = some o := by
      rw [← lk_dels, ← lk_subAL]; exact h
    by_cases hz : i ∈ fz
    · rw [if_pos hz] at h
      have h : (if i < s.B then s.f0 i else none) = some o := h
      rw [if_neg (by have := hB i hz; omega)] at h; cases h
    · rw [if_neg hz] at h
      refine ⟨hz, ?_⟩
      cases hl : lk i s.l with
      | some o0 =>
        rw [hl] at h
        simp only [Option.map_some, Option.some.injEq] at h
        exact ⟨o0, by simp [MS.f, hl], .inl h.symm⟩
      | none =>
        rw [hl] at h
        exact ⟨o, by simp only [MS.f, hl]; exact h, .inr rfl⟩
  refine ⟨g', hle, ⟨⟨ha.env.1, fun k p hp => ?_, ha.env.2.2.mono hle⟩, ?_⟩, ⟨?_, ?_, ?_, ?_, ?_, hi.gl.mono hle⟩⟩
  · simp only [MS.st, MS.frz, get_subE, Option.map_eq_some_iff] at hp
    obtain ⟨p0, h1, rfl⟩ := hp
    exact (ha.env.2.1 k p0 h1).sub hle hθ
  · exact ha.df.mono hle
  · intro b o h
    have h : (if fb b then w.heap[b]? else g.H b) = some o := h
    split at h
    · exact h
    · exact hi.hH b o h
  · intro i o h
    obtain ⟨_, o0, h1, h2⟩ := hf i o h
    rcases h2 with rfl | rfl
    · exact (hi.obj i o0 h1).sub hle rfl hθ hc
    · exact (hi.obj i o h1).mono hle (fun _ _ => rfl)
  · intro i j o o' e e' h1 h2
    obtain ⟨_, o1, k1, _⟩ := hf i o h1
    obtain ⟨_, o2, k2, _⟩ := hf j o' h2
    exact hi.inj i j o1 o2 e e' k1 k2
  · intro i o e h1 h2 z
    obtain ⟨hz, o1, k1, _⟩ := hf i o h1
    show (if fb e.1 then w.heap[e.1]? else g.H e.1) = none
    rw [if_neg]
    · exact hi.dis i o1 e k1 h2 z
    · rintro ⟨id, hid, ⟨o2, k2⟩, N', T, hio, hN⟩
      have := hi.inj i id _ _ _ _ k1 k2 h2 hio z hN rfl
      subst this
      exact hz hid
  · exact hi.fr
theorem wpM_frz {c : Code} {s : MS} {Q : ExitA → MS → Prop} (fz : List Nat) (t : List (TypeId × Nat × Nat × Nat × List (List PV))) (hB : ∀ i ∈ fz, s.B ≤ i) (hr : ∀ x ∈ t, x.2.1 ∈ fz ∧ RowsOf P s.f x.1 x.2.1 x.2.2.1 x.2.2.2.1 x.2.2.2.2)
    (h : wpM P r N c (s.frz fz t) Q) : wpM P r N c s Q := wpA_turn (fun _ _ _ ha hi => frz_ok fz t hB hr ha hi) h
omit [Glob] in
theorem packA_flat {rs : List PV} (h : PV.flatL rs = true) : (packA rs).flat = true := by
  match rs, h with
  | [], _ => rfl
  | [p], h => simpa [packA, PV.flatL] using h
  | p :: q :: r, h => exact h
end
end Sg
namespace Sg
open Go
set_option linter.unusedSectionVars false
variable [Glob]
mutual
theorem ren_self : (p : PV) → p.ren (renId [] []) = p
  | .ptr _ _ | .sl _ _ _ _ | .map _ | .bool _ | .int _ _ | .str _ | .nilp | .vptr _ | .kptr _ _ | .rows _ _ | .emp | .nilm | .nilfn | .nilif | .dead => rfl
  | .fn f a c => by simp only [PV.ren, renL_self a, renL_self c]
  | .iface t v => by simp only [PV.ren, ren_self v]
  | .agg cs => by simp only [PV.ren, renL_self cs]
  | .tuple cs => by simp only [PV.ren, renL_self cs]
theorem renL_self : (l : List PV) → PV.renL (renId [] []) l = l
  | [] => rfl
  | x :: r => by simp only [PV.renL, ren_self x, renL_self r]
end
theorem renO_self (o : AObj) : o.ren (renId [] []) = o := by
  cases o with
  | cells T cs => simp only [AObj.ren, renL_self]
  | map es => simp only [AObj.ren, ren_self, List.map_id']
  | loop b d st pend fn N env ps as body =>
    have : ∀ e : Env, mapE (PV.ren (renId [] [])) e = e := by
      intro e
      induction e with
      | nil => rfl
      | cons x r ih => obtain ⟨k, v⟩ := x; simp only [mapE, ih, ren_self]
    simp only [AObj.ren, this]
  | dfr b => rfl
section
variable {P : Program}
theorem callF_of' {f : FuncId} {fn : Func} {c : Code} {N : Nat} {args : List PV} {l : List (Nat × AObj)} {k : Nat} {Ω : List Nat → COut → Prop} (hf : P.funcs[f]? = some fn) (hb : fn.body = some c) (hN : fn.ntmps = N) (hargs : args.length ≤ N)
    (h : ∀ f0 B ns Q, (∀ i, hasKey i l = true → i < B) → ns.length = k → (∀ e s, retQ P fn.results.toList l f0 B ns Ω e s → Q e s) → wpM P none N c ⟨envOf 0 args, l, f0, B, B, []⟩ Q) : CallF P f args l k Ω :=
  callF_of hf hb hN hargs fun f0 B ns hB hns => h f0 B ns _ hB hns fun _ _ h => h
theorem callF_ofC' {f : FuncId} {fn : Func} {c : Code} {N : Nat} {args : List PV} {l : List (Nat × AObj)} {k : Nat} {Ω : List Nat → COut → Prop} (hf : P.funcs[f]? = some fn) (hb : fn.body = some c) (hN : fn.ntmps = N) (hargs : args.length ≤ N)
    (h : ∀ f0 B ns Q, (∀ i, hasKey i l = true → i < B) → ns.length = k → (∀ e s, retQ P fn.results.toList l (cutL l f0) B ns Ω e s → Q e s) → wpM P none N c ⟨envOf 0 args, l, cutL l f0, B, B, []⟩ Q) : CallF P f args l k Ω :=
  callF_ofC hf hb hN hargs fun f0 B ns hB hns => h f0 B ns _ hB hns fun _ _ h => h
def oldOk0 (s : MS) (u : List (Nat × Option AObj)) (p : Nat → Prop) : List (Nat × AObj) → Prop
  | [] => True
  | (i, o) :: r => (match lk i u with
      | some (some o') => s.f i = some o' ∧ o'.ids p
      | some none => True
      | none => s.f i = some o) ∧ oldOk0 s u p r
theorem oldOk_of0 {s : MS} {u : List (Nat × Option AObj)} {p : Nat → Prop} : {l : List (Nat × AObj)} → oldOk0 s u p l → oldOk (renId [] []) p s u l
  | [], _ => trivial
  | (i, o) :: r, ⟨h1, h2⟩ => by
    refine ⟨?_, oldOk_of0 h2⟩
    split
    · rename_i o' hu
      rw [hu] at h1
      unfold goodObj
      rw [h1.1]
      exact ⟨(renO_self o').symm, h1.2⟩
    · trivial
    · rename_i hu
      rw [hu] at h1; exact h1
theorem ret0 {rv : List ResultVar} {l : List (Nat × AObj)} {f0 : Nat → Option AObj} {B : Nat} {Ω : List Nat → COut → Prop} {s : MS} (u : List (Nat × Option AObj)) {rs : List PV} (h1 : s.f0 = f0) (h2 : s.B = B) (h3 : s.df = []) (hr : resA P s.σ s.env rv = some rs) (hΩ : Ω [] { rs := rs, u := u })
    (hk : keysIn s.B l s.l) (hids : PV.idsL (fun i => hasKey i l = true ∨ i ∈ ([] : List Nat)) rs) (hu : updOk l u) (ho : oldOk0 s u (fun i => hasKey i l = true ∨ i ∈ ([] : List Nat)) l) : retQ P rv l f0 B [] Ω .ret s :=
  ⟨h1, h2, h3, [], rs, { rs := rs, u := u }, hΩ, rfl, hr, ⟨hk, List.nodup_nil, (renL_self rs).symm, rfl, by simpa using hids, hu, oldOk_of0 ho, trivial⟩⟩
theorem ret0n {rv : List ResultVar} {l : List (Nat × AObj)} {f0 : Nat → Option AObj} {B : Nat} {Ω : List Nat → COut → Prop} {s : MS} (u : List (Nat × Option AObj)) {rs : List PV} (h1 : s.f0 = f0) (h2 : s.B = B) (h3 : s.df = []) (hr : resA P s.σ s.env rv = some rs) (hΩ : Ω [] { rs := rs, u := u })
    (hk : keysIn s.B l s.l) (hids : PV.idsL (fun i => hasKey i l = true ∨ i ∈ ([] : List Nat)) rs) (hu : updOk l u) (ho : oldOk0 s u (fun i => hasKey i l = true ∨ i ∈ ([] : List Nat)) l) : retQ P rv l f0 B [] Ω .normal s :=
  ret0 u h1 h2 h3 hr hΩ hk hids hu ho
attribute [go_sem] oldOk0
omit [Glob] in
theorem retK {rv : List ResultVar} {l : List (Nat × AObj)} {f0 : Nat → Option AObj} {B : Nat} {ns : List Nat} {Ω : List Nat → COut → Prop} {s : MS} (js : List Nat) (u : List (Nat × Option AObj)) (nw : List (Nat × AObj)) {rs rs' : List PV} (h1 : s.f0 = f0) (h2 : s.B = B) (h3 : s.df = []) (hr : resA P s.σ s.env rv = some rs)
    (hrs : rs' = PV.renL (renId js ns) rs) (hΩ : Ω ns { rs := rs', u := u, nw := nw }) (hnd : js.Nodup)
    (hk : keysIn s.B l s.l) (hids : PV.idsL (fun i => hasKey i l = true ∨ i ∈ js) rs) (hu : updOk l u) (ho : oldOk (renId js ns) (fun i => hasKey i l = true ∨ i ∈ js) s u l) (hn : newOk (renId js ns) (fun i => hasKey i l = true ∨ i ∈ js) s js ns nw) : retQ P rv l f0 B ns Ω .ret s :=
  ⟨h1, h2, h3, js, rs, { rs := rs', u := u, nw := nw }, hΩ, rfl, hr, ⟨hk, hnd, hrs, rfl, by simpa using hids, hu, ho, hn⟩⟩
def subF (s : MS) : List (Nat × AObj) → Prop
  | [] => True
  | (k, o) :: r => s.f k = some o ∧ subF s r
attribute [go_sem] subF
omit [Glob] in
theorem subF_spec {s : MS} : {l : List (Nat × AObj)} → subF s l → ∀ i o, lk i l = some o → s.f i = some o
  | [], _, i, o, h => by simp [lk] at h
  | (k, v) :: r, ⟨h1, h2⟩, i, o, h => by
    simp only [lk] at h
    split at h
    · rename_i e; subst e; injection h with h; subst h; exact h1
    · exact subF_spec h2 i o h
variable {r : Option Nat} {N : Nat}
theorem call_fn {o : Oper} {s : MS} {K : MS → Prop} {X : PV → MS → Prop} {x : Operand} {as : Array Operand} {ts : Array TypeId} {f : FuncId} {first cap ps : List PV} {l : List (Nat × AObj)} {k : Nat} {Ω : List Nat → COut → Prop}
    (hc : CallF P f (first ++ ps ++ cap) l k Ω) (henter : ∀ args w, (callFunc f args).run P w = .ok (.enter f args) w) (ho : o.op = .call { callee := .value x, args := as, argTypes := ts }) (hd : dstOk N o.dst = true) (hx : ev s.env x = some (.fn (.func f) first cap)) (ha : evs s.env as.toList = some ps)
    (hl : subF s l) (hk : callK s o.dst k Ω K X) : OpM P r N o s K X := OpM_call ho hd hx ha henter hc (subF_spec hl) hk
end
end Sg
namespace Sg
open Go
set_option linter.unusedSectionVars false
variable [Glob]
section
variable {P : Program}
def dfrs (s : MS) : List Nat → Prop
  | [] => True
  | i :: r => (s.B ≤ i ∧ (∃ b, s.f i = some (.dfr b)) ∧ i ∉ r) ∧ dfrs s r
def MS.undf (s : MS) (ids : List Nat) : MS := { s with l := dels ids s.l, df := [] }
def endQ (P : Program) (rv : List ResultVar) (K : List PV → MS → Prop) (X : PV → MS → Prop) : ExitA → MS → Prop
  | .normal, s | .ret, s => ∃ ids, s.df = ids.map DA.mark ∧ dfrs s ids ∧ ∃ rs, resA P (s.undf ids).σ s.env rv = some rs ∧ K rs (s.undf ids)
  | .panic v, s => ∃ ids, s.df = ids.map DA.mark ∧ dfrs s ids ∧ X v (s.undf ids)
  | _, _ => False
omit [Glob] in
theorem undf_f {s : MS} {ids : List Nat} (hB : ∀ i ∈ ids, s.B ≤ i) (i : Nat) : (s.undf ids).f i = if i ∈ ids then none else s.f i := by
  show (match lk i (dels ids s.l) with | some o => some o | none => if i < s.B then s.f0 i else none) = _
  rw [lk_dels]
  by_cases h : i ∈ ids
  · have := hB i h
    have h2 : ¬ i < s.B := by omega
    rw [if_pos h, if_pos h]
    show (if i < s.B then s.f0 i else none) = none
    rw [if_neg h2]
  · rw [if_neg h, if_neg h]; rfl
omit [Glob] in
theorem dfrs_B {s : MS} : {ids : List Nat} → dfrs s ids → ∀ i ∈ ids, s.B ≤ i
  | _ :: _, h, i, hm => by
    simp only [List.mem_cons] at hm
    rcases hm with rfl | hm
    · exact h.1.1
    · exact dfrs_B h.2 i hm
theorem leaves_marks {fn : Func} {tmps : Array Value} {R' : Ending → World → Prop} {g : Gh} {mode : FrameMode} (hm : mode ≠ .run) (fin : ∀ (w' : World) (σ' : Store), Inv P g σ' w' → Frame w' w' → True) :
    ∀ (ids : List Nat) (σ : Store) (w : World) (ds : List Deferred), RDs P g (ids.map DA.mark) ds → Inv P g σ w → (∀ i ∈ ids, ∃ b, σ.f i = some (.dfr b)) → ids.Nodup →
      (∀ σ' w', (∀ i, σ'.f i = if i ∈ ids then none else σ.f i) → σ'.fr = σ.fr → Inv P g σ' w' → Frame w w' → LeavesIn (Fe none) 0 P fn tmps R' [] mode w') → LeavesInM (Fe none) 0 P fn tmps R' ds mode w
  | [], σ, w, ds, hd, hi, _, _, h => by
    cases ds with
    | nil => exact h σ w (fun i => by simp) rfl hi (.refl w)
    | cons d ds => exact hd.elim
  | i :: ids, σ, w, ds, hd, hi, ho, hnd, h => by
    cases ds with
    | nil => exact hd.elim
    | cons d ds =>
      obtain ⟨h1, h2⟩ := hd
      obtain ⟨b, hb⟩ := ho i (by simp)
      obtain ⟨k1, k2⟩ := hi.obj i _ hb
      cases h1 with
      | mark _ b' N T hio =>
        rw [k1] at hio
        injection hio with hio
        injection hio with e1 e2
        subst e1
        refine ⟨hm, .inl ⟨b, _, rfl, run_takeDeferred k2, ?_⟩⟩
        have hi' := hi.put1 hb k1 (.deferred none)
        simp only [List.nodup_cons] at hnd
        refine leaves_marks hm fin ids (σ.drop i) _ ds h2 hi' ?_ hnd.2 ?_
        · intro j hj
          obtain ⟨c, hc⟩ := ho j (by simp [hj])
          refine ⟨c, ?_⟩
          simp only [Store.drop]
          rw [if_neg (by rintro rfl; exact hnd.1 hj)]; exact hc
        · intro σ' w' e1 e2 hi2 hf
          refine h σ' w' (fun k => ?_) (e2.trans rfl) hi2 ((frame_putObj w b _).trans hf)
          rw [e1 k]
          simp only [Store.drop, List.mem_cons]
          by_cases ha : k ∈ ids
          · simp [ha]
          · by_cases hk : k = i <;> simp [ha, hk]
omit [Glob] in
theorem dfrs_spec {s : MS} : {ids : List Nat} → dfrs s ids → (∀ i ∈ ids, ∃ b, s.f i = some (.dfr b)) ∧ ids.Nodup
  | [], _ => ⟨fun i h => by simp at h, List.nodup_nil⟩
  | i :: r, ⟨⟨_, h2, h3⟩, h4⟩ => by
    obtain ⟨a, b⟩ := dfrs_spec h4
    refine ⟨fun j hj => ?_, List.nodup_cons.2 ⟨h3, b⟩⟩
    simp only [List.mem_cons] at hj
    rcases hj with rfl | hj
    · exact h2
    · exact a j hj
def bodyR (P : Program) (g : Gh) (w : World) (K : List PV → MS → Prop) (X : PV → MS → Prop) (e : Ending) (w' : World) : Prop :=
  match e with
  | .returned v => ∃ g' rs s', g.le g' ∧ Frame w w' ∧ Inv P g' s'.σ w' ∧ R P g' (packA rs) v ∧ K rs s'
  | .panicked ch => ∃ g' u p s', g.le g' ∧ Frame w w' ∧ Inv P g' s'.σ w' ∧ ch = [{ v := u, recovered := false }] ∧ R P g' p u ∧ X p s'
  | .outgrown => False
theorem callsIn_body {f : FuncId} {fn : Func} {c : Code} {N : Nat} {args : List PV} {vals : Array Value} {s : MS} {K : List PV → MS → Prop} {X : PV → MS → Prop} (hf : P.funcs[f]? = some fn) (hb : fn.body = some c) (hN : fn.ntmps = N) (hargs : args.length ≤ N)
    {g : Gh} {w : World} (hv : RL P g args vals) (hi : Inv P g s.σ w) (h : wpM P none N c ⟨envOf 0 args, s.l, s.f0, s.B, s.M, []⟩ (endQ P fn.results.toList K X)) : CallsIn (Fe none) 0 P f vals w (bodyR P g w K X) := by
  refine callsIn_of_wp_marks hf hb trivial ?_
  rw [hN]
  have hsize : (vals ++ Array.replicate (N - vals.size) undef).size = N := by simp [hv.1]; omega
  have hRA : RA P g N (MS.st ⟨envOf 0 args, s.l, s.f0, s.B, s.M, []⟩) { tmps := vals ++ Array.replicate (N - vals.size) undef, defers := [] } := by
    refine ⟨⟨hsize, fun t p hp => ?_, hi.gl⟩, trivial⟩
    obtain ⟨_, h2, h3⟩ := get_envOf 0 args t p hp
    simp only [Nat.sub_zero] at h2 h3
    subst h3
    have := hv.2 t h2
    have hlt : t < vals.size := by rw [hv.1]; exact h2
    simpa [Array.getD_eq_getD_getElem?, Array.getElem?_append_left hlt] using this
  refine wpIn_mono (h g w _ hRA hi) ?_
  rintro e a' w' ⟨g', ea, st', h1, h2, h3, h4, h5, s', hw, hq⟩
  have h3' := h3.weak hw
  have h4' : Inv P g' s'.σ w' := h4.weak hw.f hw.fr
  have hgo : ∀ (ids : List Nat), s'.df = ids.map DA.mark → dfrs s' ids → ∀ mode, mode ≠ FrameMode.run → (∀ w2, Inv P g' (s'.undf ids).σ w2 → Frame w' w2 → LeavesIn (Fe none) 0 P fn a'.tmps (bodyR P g w K X) [] mode w2) → LeavesInM (Fe none) 0 P fn a'.tmps (bodyR P g w K X) a'.defers mode w' := by
    intro ids hd hds mode hm hfin
    obtain ⟨k1, k2⟩ := dfrs_spec hds
    refine leaves_marks hm (fun _ _ _ _ => trivial) ids s'.σ w' a'.defers ?_ h4' k1 k2 ?_
    · have := h3'.df
      rwa [show s'.st.df = ids.map DA.mark from hd] at this
    · intro σ2 w2 e1 e2 hi2 hfr
      refine hfin w2 (hi2.weak (fun i o hh => ?_) (fun i hh => ?_)) hfr
      · rw [e1 i]
        have := undf_f (dfrs_B hds) i
        simp only [MS.σ] at hh ⊢
        rw [this] at hh
        exact hh
      · rw [e2]; exact hh
  have retn : (∃ ids, s'.df = ids.map DA.mark ∧ dfrs s' ids ∧ ∃ rs, resA P (s'.undf ids).σ s'.env fn.results.toList = some rs ∧ K rs (s'.undf ids)) → LeavesInM (Fe none) 0 P fn a'.tmps (bodyR P g w K X) a'.defers .returning w' := by
    rintro ⟨ids, hd, hds, rs, hrs, hk⟩
    refine hgo ids hd hds .returning (by simp) fun w2 hi2 hfr => ?_
    obtain ⟨v, r1, r2⟩ := results_ok (P := P) h3'.env hi2 hrs
    exact ⟨v, r1, g', rs, _, h1, h5.trans hfr, hi2, r2, hk⟩
  cases e with
  | normal =>
    obtain rfl := RExit_normal h2
    exact retn hq
  | ret =>
    cases ea <;> simp only [RExit] at h2
    exact retn hq
  | panic ch =>
    cases ea <;> simp only [RExit] at h2
    rename_i v
    obtain ⟨u, rfl, hu⟩ := h2
    obtain ⟨ids, hd, hds, hk⟩ := hq
    refine hgo ids hd hds _ (by simp) fun w2 hi2 hfr => ?_
    exact ⟨g', u, v, _, h1, h5.trans hfr, hi2, rfl, hu, hk⟩
  | exit id => cases ea <;> first | (simp only [RExit] at h2; done) | exact hq.elim
  | goto id => cases ea <;> first | (simp only [RExit] at h2; done) | exact hq.elim
  | outgrown => cases ea <;> simp only [RExit] at h2
variable {r : Option Nat} {N : Nat}
theorem OpM_inline {o : Oper} {s : MS} {K : MS → Prop} {X : PV → MS → Prop} {x : Operand} {as : Array Operand} {ts : Array TypeId} {f : FuncId} {first cap ps : List PV} {fn : Func} {c : Code} {N' : Nat}
    (hf : P.funcs[f]? = some fn) (hb : fn.body = some c) (hN : fn.ntmps = N') (hargs : (first ++ ps ++ cap).length ≤ N')
    (henter : ∀ args w, (callFunc f args).run P w = .ok (.enter f args) w) (ho : o.op = .call { callee := .value x, args := as, argTypes := ts }) (hd : dstOk N o.dst = true) (hx : ev s.env x = some (.fn (.func f) first cap)) (ha : evs s.env as.toList = some ps)
    (h : wpM P none N' c ⟨envOf 0 (first ++ ps ++ cap), s.l, s.f0, s.B, s.M, []⟩ (endQ P fn.results.toList (fun rs s' => K { s' with env := put s.env o.dst (packA rs), df := s.df }) (fun v s' => X v { s' with env := s.env, df := s.df }))) : OpM P r N o s K X := by
  have hdef : ∀ c, o.op ≠ .defer c := by intro c h; rw [ho] at h; cases h
  intro g w a hra hi next Q' h1 h2
  have hx1 := R_ev hra hx
  have hx2 := evs_RL hra ha
  generalize hv : a.eval x = v at hx1
  cases hx1 with
  | fn _ _ _ va vc e1 e2 e3 e4 =>
    have hvals : RL P g (first ++ ps ++ cap) (va ++ as.map a.eval ++ vc) := (RL.append ⟨e1, e3⟩ hx2).append ⟨e2, e4⟩
    have hrun : (execOp a.eval o).run P w = .ok (.enter f (va ++ as.map a.eval ++ vc)) w := by
      unfold execOp
      simp only [ho]
      exact resolve_value hv henter w
    refine ⟨fun _ _ => trivial, ?_⟩
    rw [Oper.semAt_eq _ _ _ hdef, hrun, Oper.uponIn_enter]
    refine ⟨fun h => (by cases h), ?_⟩
    have hcall := callsIn_body (s := s) hf hb hN hargs hvals hi h
    refine CallsIn.mono (F := Fe r) (n := 0 - 1) hcall ?_
    intro e w' hR
    cases e with
    | returned v =>
      obtain ⟨g', rs, s', k1, k2, k3, k4, k5⟩ := hR
      have ha' := (hra.mono k1).put hd k4
      exact h1 g' (MS.st { s' with env := put s.env o.dst (packA rs), df := s.df }) _ w' k1 ⟨ha'.env, ha'.df⟩ k3 k2 ⟨_, .refl _, k5⟩
    | panicked ch =>
      obtain ⟨g', u, p, s', k1, k2, k3, rfl, k4, k5⟩ := hR
      have ha' := hra.mono k1
      exact h2 g' (MS.st { s' with env := s.env, df := s.df }) a w' p u k1 ⟨ha'.env, ha'.df⟩ k3 k2 k4 ⟨_, .refl _, k5⟩
    | outgrown => exact hR.elim
def putAll : Env → List Nat → List PV → Env
  | e, t :: ts, p :: ps => putAll ((t, p) :: e) ts ps
  | e, _, _ => e
theorem REnv.putTmp {g : Gh} {N : Nat} {e : Env} {tmps : Array Value} {t : Nat} {p : PV} {v : Value} (h : REnv P g N e tmps) (ht : t < N) (hp : R P g p v) : REnv P g N ((t, p) :: e) (tmps.setIfInBounds t v) := by
  refine ⟨by simp [h.1], fun u q hq => ?_, h.2.2⟩
  simp only [get] at hq
  split at hq
  · rename_i e1; subst e1
    injection hq with hq; subst hq
    have : t < tmps.size := by rw [h.1]; exact ht
    simpa [Array.getD_eq_getD_getElem?, this] using hp
  · rename_i hne
    have := h.2.1 u q hq
    simpa [Array.getD_eq_getD_getElem?, Array.getElem?_setIfInBounds_ne hne] using this
theorem putAll_ok {g : Gh} {N : Nat} : (ts : List Nat) → (ps : List PV) → (vs : List Value) → (e : Env) → (tmps : Array Value) → REnv P g N e tmps → (∀ t ∈ ts, t < N) → ts.length = ps.length → vs.length = ps.length → (∀ j (hj : j < ps.length), R P g ps[j] (vs.getD j undef)) →
    REnv P g N (putAll e ts ps) ((ts.zip vs).foldl (fun (tmps : Array Value) (x : Nat × Value) => tmps.setIfInBounds x.1 x.2) tmps)
  | [], _, vs, e, tmps, h, _, _, _, _ => by simpa [putAll] using h
  | t :: ts, [], vs, e, tmps, h, _, hl, _, _ => by simp at hl
  | t :: ts, p :: ps, [], e, tmps, h, _, _, hv, _ => by simp at hv
  | t :: ts, p :: ps, v :: vs, e, tmps, h, ht, hl, hv, hr => by
    simp only [putAll, List.zip_cons_cons, List.foldl_cons]
    refine putAll_ok ts ps vs _ _ (h.putTmp (ht t (by simp)) (hr 0 (by simp))) (fun t' h' => ht t' (by simp [h'])) (by simpa using hl) (by simpa using hv) (fun j hj => ?_)
    have := hr (j + 1) (by simpa using hj)
    simpa using this
def roundQ (id : Nat) (b : Nat) (K : Bool → MS → Prop) : ExitA → MS → Prop
  | .normal, s => ∃ d st pe fn N env ps as body, s.f id = some (.loop b d st pe fn N env ps as body) ∧ K true { s with l := setl id (.loop b d .ready none fn N env ps as body) s.l }
  | .ret, s => ∃ d st pe fn N env ps as body, s.f id = some (.loop b d st pe fn N env ps as body) ∧ K false { s with l := setl id (.loop b d .done (some .ret) fn N env ps as body) s.l }
  | .exit e, s => ∃ d st pe fn N env ps as body, s.f id = some (.loop b d st pe fn N env ps as body) ∧ K false { s with l := setl id (.loop b d .done (some (.exit e)) fn N env ps as body) s.l }
  | _, _ => False
omit [Glob] in
theorem weak_setl {s : MS} {id : Nat} {o : AObj} : ∀ i x, (MS.f { s with l := setl id o s.l } i) = some x → (s.σ.set id o).f i = some x := by
  intro i x h
  simp only [MS.f, lk_setl] at h
  simp only [Store.set, MS.σ, MS.f]
  by_cases e : id = i
  · subst e; simpa using h
  · rw [if_neg (fun h => e h.symm)]
    rw [if_neg e] at h
    exact h
theorem inv_loop {g : Gh} {s : MS} {w : World} (hi : Inv P g s.σ w) {id b d : Nat} {st : LoopState} {pe : Option Code} {fn : FuncId} {N : Nat} {env : Env} {ps : Array Nat} {as body : Code} (ho : s.f id = some (.loop b d st pe fn N env ps as body)) (st' : LoopState) (pe' : Option Code) :
    ∃ tmps : Array Value, w.heap[b]? = some (.loop { state := st, pending := pe, fn, tmps, params := ps, assign := as, body, defers := d }) ∧ REnv P g N env tmps ∧
      Inv P g (MS.σ { s with l := setl id (.loop b d st' pe' fn N env ps as body) s.l }) (w.putObj b (.loop { state := st', pending := pe', fn, tmps, params := ps, assign := as, body, defers := d })) := by
  obtain ⟨k1, tmps, k2, k3, k4⟩ := hi.obj id _ ho
  refine ⟨tmps, k2, ⟨k3, k4, hi.gl⟩, ?_⟩
  have hlt : b < w.heap.size := (Array.getElem?_eq_some_iff.1 k2).1
  have := hi.set1 (o1 := .loop b d st' pe' fn N env ps as body) ho k1 (.loop { state := st', pending := pe', fn, tmps, params := ps, assign := as, body, defers := d }) ⟨k1, tmps, World.putObj_heap_same hlt, k3, k4⟩
  exact this.weak (fun i x h => weak_setl i x h) (fun i h => h)
theorem OpM_round {o : Oper} {s : MS} {K : MS → Prop} {X : PV → MS → Prop} {x : Operand} {as : Array Operand} {ts : Array TypeId} {b : Nat} {vs : List PV} (id : Nat) {d : Nat} {pe : Option Code} {fn : FuncId} {N' : Nat} {env : Env} {ps : Array Nat} {asg body : Code}
    (ho : o.op = .call { callee := .value x, args := as, argTypes := ts }) (hd : dstOk N o.dst = true) (hx : ev s.env x = some (.fn (.yield b) [] [])) (ha : evs s.env as.toList = some vs)
    (hl : s.f id = some (.loop b d .ready pe fn N' env ps asg body)) (hps : ps.size = vs.length) (hpN : ps.toList.all (fun t => decide (t < N')) = true)
    (h : wpM P (some b) N' asg ⟨putAll env ps.toList vs, s.l, s.f0, s.B, s.M, []⟩ fun e s1 => e = .normal ∧ ∃ d1 pe1 fn1 N1 env1 ps1 as1 body1, s1.f id = some (.loop b d1 .ready pe1 fn1 N1 env1 ps1 as1 body1) ∧
      wpM P (some b) N' body { s1 with l := setl id (.loop b d1 .busy pe1 fn1 N1 env1 ps1 as1 body1) s1.l } (roundQ id b fun v s2 => K { s2 with env := put s.env o.dst (.bool v), df := s.df })) : OpM P r N o s K X := by
  have hdef : ∀ c, o.op ≠ .defer c := by intro c h; rw [ho] at h; cases h
  intro g w a hra hi next Q' h1 h2
  have hx1 := R_ev hra hx
  have hx2 := evs_RL hra ha
  generalize hv : a.eval x = v at hx1
  cases hx1 with
  | fn _ _ _ va vc e1 e2 e3 e4 =>
    obtain rfl : va = #[] := Array.size_eq_zero_iff.1 e1
    obtain rfl : vc = #[] := Array.size_eq_zero_iff.1 e2
    obtain ⟨tmps, k2, k3, _⟩ := inv_loop hi hl .ready none
    have hsz : (as.map a.eval).size = ps.size := by rw [hx2.1, hps]
    have hrun : (execOp a.eval o).run P w = .ok (.round b fn ((ps.zip (as.map a.eval)).foldl (fun tmps (x : Nat × Value) => tmps.setIfInBounds x.1 x.2) tmps) asg body) w := by
      have e0 : #[] ++ as.map a.eval ++ (#[] : Array Value) = as.map a.eval := by simp
      unfold execOp
      simp only [ho, resolve, hv, Deferred.ofValue, Sem.run_bind, Sem.run_pure, Result.andThen_ok, invoke, e0]
      have e1 : #[] ++ as.map a.eval = as.map a.eval := by simp
      rw [e1, run_yield k2 hsz]
    refine ⟨fun _ _ => trivial, ?_⟩
    rw [Oper.semAt_eq _ _ _ hdef, hrun, Oper.uponIn_round]
    refine ⟨fun h => (by cases h), ?_⟩
    let tm := (ps.zip (as.map a.eval)).foldl (fun (tmps : Array Value) (x : Nat × Value) => tmps.setIfInBounds x.1 x.2) tmps
    have htm : REnv P g N' (putAll env ps.toList vs) tm := by
      have := putAll_ok (P := P) (g := g) (N := N') ps.toList vs (as.map a.eval).toList env tmps k3 (fun t ht => by have := List.all_eq_true.1 hpN t ht; simpa using this) (by simpa using hps) (by simpa using hx2.1) (fun j hj => by
        have := hx2.2 j hj
        simpa [Array.getD_eq_getD_getElem?, List.getD_eq_getElem?_getD] using this)
      simpa [tm, ← Array.foldl_toList, Array.toList_zip] using this
    have hRA : RA P g N' (MS.st ⟨putAll env ps.toList vs, s.l, s.f0, s.B, s.M, []⟩) { tmps := tm, defers := [] } := ⟨htm, trivial⟩
    refine roundIn_of_wpIn trivial ?_
    show asg.wpIn (Fe (some b)) 0 P _ { tmps := tm, defers := [] } w
    refine wpIn_mono (h g w _ hRA hi) ?_
    rintro e a1 w1 ⟨g1, ea, st1, m1, m2, m3, m4, m5, s1, hw1, rfl, d1, pe1, fn1, N1, env1, ps1, as1, body1, hl1, hbody⟩
    cases e <;> simp only [RExit] at m2
    have m3' := m3.weak hw1
    have m4' : Inv P g1 s1.σ w1 := m4.weak hw1.f hw1.fr
    obtain ⟨tmps1, n2, n3, n4⟩ := inv_loop m4' hl1 .busy pe1
    show ∃ w₂, _ ∧ _
    refine ⟨_, run_beginRound n2 rfl, ?_⟩
    show body.wpIn (Fe (some b)) 0 P _ _ _
    refine wpIn_mono (hbody g1 _ a1 ⟨m3'.env, m3'.df⟩ n4) ?_
    rintro e2 a2 w2 ⟨g2, ea2, st2, p1, p2, p3, p4, p5, s2, hw2, hq⟩
    have p4' : Inv P g2 s2.σ w2 := p4.weak hw2.f hw2.fr
    have fr2 : Frame w w2 := (m5.trans (frame_putObj _ _ _)).trans p5
    have fin : ∀ (v : Bool) (jump : Option Code) (s3 : MS) (w3 : World), jump.isNone = v → Inv P g2 s3.σ w3 → Frame w2 w3 → K { s3 with env := put s.env o.dst (.bool v), df := s.df } → next (a.put o.dst (.bool jump.isNone)) w3 := by
      intro v jump s3 w3 hj hi3 hf3 hk
      have ha' := (hra.mono (m1.trans p1)).put hd (R.bool (P := P) (g := g2) v)
      rw [hj]
      exact h1 g2 (MS.st { s3 with env := put s.env o.dst (.bool v), df := s.df }) _ w3 (m1.trans p1) ⟨ha'.env, ha'.df⟩ hi3 (fr2.trans hf3) ⟨_, .refl _, hk⟩
    cases e2 with
    | normal =>
      obtain rfl := RExit_normal p2
      obtain ⟨d2, st2', pe2, fn2, N2, env2, ps2, as2, body2, hl2, hk⟩ := hq
      obtain ⟨tmps2, q2, q3, q4⟩ := inv_loop p4' hl2 .ready none
      exact ⟨_, _, run_endRound none q2, fin true none _ _ rfl q4 (frame_putObj _ _ _) hk⟩
    | ret =>
      cases ea2 <;> simp only [RExit] at p2
      obtain ⟨d2, st2', pe2, fn2, N2, env2, ps2, as2, body2, hl2, hk⟩ := hq
      obtain ⟨tmps2, q2, q3, q4⟩ := inv_loop p4' hl2 .done (some .ret)
      exact ⟨_, _, run_endRound (some .ret) q2, fin false (some .ret) _ _ rfl q4 (frame_putObj _ _ _) hk⟩
    | exit i =>
      cases ea2 <;> simp only [RExit] at p2
      subst p2
      obtain ⟨d2, st2', pe2, fn2, N2, env2, ps2, as2, body2, hl2, hk⟩ := hq
      rename_i i
      obtain ⟨tmps2, q2, q3, q4⟩ := inv_loop p4' hl2 .done (some (.exit i))
      exact ⟨_, _, run_endRound (some (.exit i)) q2, fin false (some (.exit i)) _ _ rfl q4 (frame_putObj _ _ _) hk⟩
    | goto i => cases ea2 <;> first | (simp only [RExit] at p2; done) | exact hq.elim
    | panic ch => cases ea2 <;> first | (simp only [RExit] at p2; done) | exact hq.elim
    | outgrown => cases ea2 <;> simp only [RExit] at p2
def rangeQ (P : Program) (N : Nat) (s : MS) (id mk b : Nat) (Q : ExitA → MS → Prop) (s' : MS) : Prop :=
  ∃ d st pe fn N' env ps as body, s'.f id = some (.loop b d st pe fn N' env ps as body) ∧ st ≠ .busy ∧
    match pe with
    | none => Q .normal { s' with env := s.env, df := .mark mk :: s.df, l := setl id (.loop b d .exhausted pe fn N' env ps as body) s'.l }
    | some .ret => Q .ret { s' with env := s.env, df := .mark mk :: s.df, l := setl id (.loop b d .exhausted pe fn N' env ps as body) s'.l }
    | some (.exit e) => Q (.exit e) { s' with env := s.env, df := .mark mk :: s.df, l := setl id (.loop b d .exhausted pe fn N' env ps as body) s'.l }
    | _ => False
theorem wpM_rangeFunc {x : Operand} {ps : Array Tmp} {asg body : Code} {s : MS} {Q : ExitA → MS → Prop} {f : FuncId} {first cap : List PV} {fnc : Func} {c : Code} {N' : Nat}
    (hx : ev s.env x = some (.fn (.func f) first cap)) (hf : P.funcs[f]? = some fnc) (hb : fnc.body = some c) (hN : fnc.ntmps = N') (hargs : first.length + 1 + cap.length ≤ N')
    (henter : ∀ args w, (callFunc f args).run P w = .ok (.enter f args) w)
    (h : ∀ fn b d, wpM P none N' c ⟨envOf 0 (first ++ [.fn (.yield b) [] []] ++ cap), (s.M + 1, .loop b d .ready none fn N s.env ps asg body) :: (s.M, .dfr d) :: s.l, s.f0, s.B, s.M + 2, []⟩
      (endQ P fnc.results.toList (fun _ s' => rangeQ P N s (s.M + 1) s.M b Q s') (fun _ _ => False))) : wpM P none N (.rangeFunc x ps asg body) s Q := by
  intro g w a hra hi
  refine wpIn_rangeFunc ?_
  intro fn _
  have hx1 := R_ev hra hx
  generalize hv : a.eval x = v at hx1
  cases hx1 with
  | fn _ _ _ va vc e1 e2 e3 e4 =>
    let b := w.heap.size + 1
    let d := w.heap.size
    let w1 := w.alloc (.deferred (some []))
    let w2 := w1.alloc (.loop { state := .ready, pending := none, fn, tmps := a.tmps, params := ps, assign := asg, body, defers := w.heap.size })
    have sM : s.σ.fr s.M := Nat.le_refl _
    have hi1 := hi.alloc (id := s.M) sM (.dfr d) (.deferred (some [])) 1 0 ⟨Gh.add_same, heap_new w _⟩
    have l1 : g.le (g.add s.M (w.heap.size, 1, 0)) := Gh.le_add (hi.fr _ sM)
    have sM1 : (s.σ.new s.M (.dfr d)).fr (s.M + 1) := ⟨Nat.le_succ _, by omega⟩
    have hnone := hi1.fr _ sM1
    have e1s : w1.heap.size = w.heap.size + 1 := by simp [w1, World.size_alloc]
    have l2 := Gh.le_add (e := (w1.heap.size, 1, 0)) hnone
    have hi2 := hi1.alloc (id := s.M + 1) sM1 (.loop b d .ready none fn N s.env ps asg body) (.loop { state := .ready, pending := none, fn, tmps := a.tmps, params := ps, assign := asg, body, defers := w.heap.size }) 1 0
      (by
        have hb : b = w1.heap.size := e1s.symm
        refine ⟨?_, a.tmps, ?_, hra.env.1, fun t p e => ((hra.env.2.1 t p e).mono l1).mono l2⟩
        · show _ = some (b, 1, 0); rw [hb]; exact Gh.add_same
        · rw [hb]; exact heap_new w1 _)
    let g2 := (g.add s.M (w.heap.size, 1, 0)).add (s.M + 1) (w1.heap.size, 1, 0)
    have l12 : g.le g2 := l1.trans l2
    refine ⟨b, [{ target := .collected d, args := #[] }], w2, { target := .fn (.func f) vc, args := va ++ #[.func (.yield b) #[] #[]] }, w2, f, va ++ #[.func (.yield b) #[] #[]] ++ vc, w2, ?_, ?_, fun _ _ => trivial, ?_, fun h => (by cases h), ?_⟩
    · exact run_enterLoop_outer fn a.tmps ps asg body
    · have e0 : Array.map a.eval #[Operand.const (.func (.yield b) #[] #[])] = #[.func (.yield b) #[] #[]] := by simp [Act.eval]
      simp only [rangeCall, resolve, hv, Deferred.ofValue, Sem.run_bind, Sem.run_pure, Result.andThen_ok, e0]
    · simp only [invoke]
      exact henter _ _
    have hi2' : Inv P g2 (MS.σ ⟨[], (s.M + 1, .loop b d .ready none fn N s.env ps asg body) :: (s.M, .dfr d) :: s.l, s.f0, s.B, s.M + 2, []⟩) w2 := by
      refine hi2.weak (fun i o hh => ?_) (fun i hh => ?_)
      · simp only [MS.σ, MS.f, lk] at hh
        simp only [Store.new, MS.σ, MS.f]
        by_cases h1 : s.M + 1 = i
        · subst h1; simpa using hh
        · rw [if_neg (fun h => h1 h.symm)]
          rw [if_neg h1] at hh
          by_cases h2 : s.M = i
          · subst h2; simpa using hh
          · rw [if_neg (fun h => h2 h.symm)]
            rw [if_neg h2] at hh
            exact hh
      · have hh : s.M + 2 ≤ i := hh
        exact ⟨⟨show s.M ≤ i by omega, by omega⟩, by omega⟩
    have hvals : RL P g2 (first ++ [.fn (.yield b) [] []] ++ cap) (va ++ #[.func (.yield b) #[] #[]] ++ vc) := by
      refine RL.append (RL.append ⟨e1, fun j hj => (e3 j hj).mono l12⟩ ⟨rfl, fun j hj => ?_⟩) ⟨e2, fun j hj => (e4 j hj).mono l12⟩
      match j, hj with
      | 0, _ => exact .fn _ [] [] #[] #[] rfl rfl (fun j hj => by simp at hj) (fun j hj => by simp at hj)
    have hcall := callsIn_body (s := ⟨[], (s.M + 1, .loop b d .ready none fn N s.env ps asg body) :: (s.M, .dfr d) :: s.l, s.f0, s.B, s.M + 2, []⟩) hf hb hN (by simp; omega) hvals hi2' (h fn b d)
    have fw : Frame w w2 := (frame_alloc w _).trans (frame_alloc w1 _)
    refine CallsIn.mono (F := Fe none) (n := 0 - 1) hcall ?_
    intro e w' hR
    cases e with
    | outgrown => exact hR.elim
    | panicked ch =>
      obtain ⟨g', u, p, s', _, _, _, _, _, k⟩ := hR
      exact k.elim
    | returned v =>
      obtain ⟨g', rs, s', k1, k2, k3, k4, d', st, pe, fn', N2, env2, ps2, as2, body2, hl, hst, hpe⟩ := hR
      obtain ⟨tmps2, q2, q3, q4⟩ := inv_loop k3 hl .exhausted pe
      refine ⟨pe, _, run_endLoop q2 hst, ?_⟩
      have hle : g.le g' := l12.trans k1
      have hio : g'.io s.M = some (d, 1, 0) := by
        refine (l2.trans k1).io _ _ ?_
        exact Gh.add_same
      have hra' : RA P g' N (MS.st { s' with env := s.env, df := .mark s.M :: s.df }) { a with defers := [{ target := .collected d, args := #[] }] ++ a.defers } :=
        ⟨(hra.mono hle).env, ⟨.mark _ _ _ _ hio, (hra.mono hle).df⟩⟩
      let o3 : AObj := .loop b d' .exhausted pe fn' N2 env2 ps2 as2 body2
      have hfr : Frame w (w'.putObj b (.loop { state := .exhausted, pending := pe, fn := fn', tmps := tmps2, params := ps2, assign := as2, body := body2, defers := d' })) := (fw.trans k2).trans (frame_putObj _ _ _)
      cases pe with
      | none => exact ⟨g', .normal, MS.st { s' with env := s.env, df := .mark s.M :: s.df, l := setl (s.M + 1) o3 s'.l }, hle, trivial, ⟨hra'.env, hra'.df⟩, q4, hfr, _, .refl _, hpe⟩
      | some c =>
        cases c <;> try exact hpe.elim
        · rename_i e
          exact wpIn_exit ⟨g', .exit e, MS.st { s' with env := s.env, df := .mark s.M :: s.df, l := setl (s.M + 1) o3 s'.l }, hle, rfl, ⟨hra'.env, hra'.df⟩, q4, hfr, _, .refl _, hpe⟩
        · exact wpIn_ret ⟨g', .ret, MS.st { s' with env := s.env, df := .mark s.M :: s.df, l := setl (s.M + 1) o3 s'.l }, hle, trivial, ⟨hra'.env, hra'.df⟩, q4, hfr, _, .refl _, hpe⟩
def retM (P : Program) (rv : List ResultVar) (l : List (Nat × AObj)) (f0 : Nat → Option AObj) (B : Nat) (ns : List Nat) (Ω : List Nat → COut → Prop) (e : ExitA) (s : MS) : Prop :=
  ∃ ids, s.df = ids.map DA.mark ∧ dfrs s ids ∧ retQ P rv l f0 B ns Ω e (s.undf ids)
theorem callF_ofM {f : FuncId} {fn : Func} {c : Code} {N : Nat} {args : List PV} {l : List (Nat × AObj)} {k : Nat} {Ω : List Nat → COut → Prop} (hf : P.funcs[f]? = some fn) (hb : fn.body = some c) (hN : fn.ntmps = N) (hargs : args.length ≤ N)
    (h : ∀ f0 B ns Q, (∀ i, hasKey i l = true → i < B) → ns.length = k → (∀ e s, retM P fn.results.toList l f0 B ns Ω e s → Q e s) → wpM P none N c ⟨envOf 0 args, l, f0, B, B, []⟩ Q) : CallF P f args l k Ω := by
  intro σ ns hinf hl hk hnd hnf g w vals hvals hi
  obtain ⟨B, hB⟩ := hinf
  have hkB : ∀ i, hasKey i l = true → i < B := by
    intro i h
    obtain ⟨o, ho⟩ := Option.isSome_iff_exists.1 h
    rcases Nat.lt_or_ge i B with h' | h'
    · exact h'
    · have := (hi.obj i o (hl i o ho)).has
      rw [hi.fr i (hB i h')] at this; cases this
  let f0 : Nat → Option AObj := fun i => if hasKey i l = true then none else σ.f i
  have hwp := h f0 B ns _ hkB hk (fun e s h => h)
  let s0 : MS := ⟨[], l, f0, B, B, []⟩
  have hI : Inv P g s0.σ w := by
    refine hi.weak (fun i o h => ?_) (fun i h => hB i h)
    simp only [s0, MS.σ, MS.f] at h
    cases hk : lk i l with
    | some x => rw [hk] at h; injection h with h; subst h; exact hl i x hk
    | none =>
      rw [hk] at h
      simp only at h
      split at h
      · simpa [f0, hasKey, hk] using h
      · cases h
  let K : List PV → MS → Prop := fun rs s => s.f0 = f0 ∧ s.B = B ∧ ∃ js out, Ω ns out ∧ out.pan = none ∧ OutOk l s js ns rs none out
  let X : PV → MS → Prop := fun v s => s.f0 = f0 ∧ s.B = B ∧ ∃ js out, Ω ns out ∧ OutOk l s js ns [] (some v) out
  have hend : ∀ e s, retM P fn.results.toList l f0 B ns Ω e s → endQ P fn.results.toList K X e s := by
    rintro e s ⟨ids, h1, h2, h3⟩
    cases e with
    | normal => obtain ⟨e1, e2, e3, js, rs, out, k1, k2, k3, k4⟩ := h3; exact ⟨ids, h1, h2, rs, k3, e1, e2, js, out, k1, k2, k4⟩
    | ret => obtain ⟨e1, e2, e3, js, rs, out, k1, k2, k3, k4⟩ := h3; exact ⟨ids, h1, h2, rs, k3, e1, e2, js, out, k1, k2, k4⟩
    | panic v => obtain ⟨e1, e2, e3, js, out, k1, k4⟩ := h3; exact ⟨ids, h1, h2, e1, e2, js, out, k1, k4⟩
    | exit i => exact h3
    | goto i => exact h3
  have hcall := callsIn_body (s := s0) hf hb hN hargs hvals hI (wpM_mono hwp hend)
  refine hcall.mono ?_
  intro e w' hR
  have packed : ∀ (rs : List PV) (ρ : Nat → Nat) (g' g'' : Gh) (v : Value), (∀ p v, p ∈ rs → R P g' p v → R P g'' (p.ren ρ) v) → R P g' (packA rs) v → R P g'' (packA (PV.renL ρ rs)) v := by
    intro rs ρ g' g'' v ht hr
    match rs, ht, hr with
    | [], _, hr => cases hr with
      | tuple _ vs hl _ => exact .tuple _ vs hl (fun j hj => by simp [PV.renL] at hj)
    | [p], ht, hr => exact ht p v (by simp) hr
    | p :: q :: r, ht, hr =>
      simp only [packA, PV.renL] at hr ⊢
      cases hr with
      | tuple _ vs hl hr' =>
        have e0 : p.ren ρ :: q.ren ρ :: PV.renL ρ r = (p :: q :: r).map (PV.ren ρ) := by simp [renL_map]
        rw [e0]
        refine .tuple _ vs (by simpa using hl) (fun j hj => ?_)
        have hj' : j < (p :: q :: r).length := by simpa using hj
        rw [List.getElem_map]
        exact ht _ _ (List.getElem_mem hj') (hr' j hj')
  cases e with
  | outgrown => exact hR.elim
  | returned v =>
    obtain ⟨g', rs, s, h1, h5, h4, hr, e1, e2, js, out, k1, k2, k4⟩ := hR
    obtain ⟨g'', m1, m2, m3, m4⟩ := leave_ok hi hB hl hnd hnf e1 e2 h4 h1 k4
    refine ⟨g'', out, m1, h5, m2, m3, k1, ?_⟩
    rw [k2, k4.rs]
    exact packed rs _ g' g'' v (fun p v hp => m4 p v (by simp [hp])) hr
  | panicked ch =>
    obtain ⟨g', u, p, s, h1, h5, h4, rfl, hr, e1, e2, js, out, k1, k4⟩ := hR
    obtain ⟨g'', m1, m2, m3, m4⟩ := leave_ok hi hB hl hnd hnf e1 e2 h4 h1 k4
    refine ⟨g'', out, m1, h5, m2, m3, k1, ?_⟩
    rw [k4.pan]
    exact ⟨u, rfl, m4 p u (by simp) hr⟩
end
end Sg
namespace Sg
open Go
set_option linter.unusedSectionVars false
variable [Glob]
def PureF (P : Program) (f : FuncId) (args rs : List PV) : Prop := CallF P f args [] 0 (fun _ o => o = { rs := rs })
section
variable {P : Program} {r : Option Nat} {N : Nat}
theorem call_p {o : Oper} {s : MS} {K : MS → Prop} {X : PV → MS → Prop} {x : Operand} {as : Array Operand} {ts : Array TypeId} {f : FuncId} {args rs : List PV}
    (hc : PureF P f args rs) (henter : ∀ args w, (callFunc f args).run P w = .ok (.enter f args) w) (ho : o.op = .call { callee := .value x, args := as, argTypes := ts }) (hd : dstOk N o.dst = true) (hx : ev s.env x = some (.fn (.func f) [] [])) (ha : evs s.env as.toList = some args)
    (hk : K { s with env := put s.env o.dst (packA rs) }) : OpM P r N o s K X := by
  refine OpM_call (first := []) (cap := []) (ps := args) (l := []) ho hd hx ha henter (by simpa [PureF] using hc) (fun i o h => by simp [lk] at h) ?_
  exact callK_pure hk
theorem callG_p {ops : Array Oper} {l : List Oper} {Q : ExitA → MS → Prop} {s : MS} {o : Oper} {b : Bool} {x : Operand} {as : Array Operand} {ts : Array TypeId} {f : FuncId} {args rs : List PV}
    (hc : b = true → PureF P f args rs) (henter : ∀ args w, (callFunc f args).run P w = .ok (.enter f args) w) (ho : o.op = .call { callee := .value x, args := as, argTypes := ts }) (hd : dstOk N o.dst = true) (hx : b = true → ev s.env x = some (.fn (.func f) [] [])) (ha : b = true → evs s.env as.toList = some args)
    (hk : kVal P r N ops l Q s o.dst (gd b (packA rs))) :
    opG (some b) (OpM P r N o s (kRun P r N ops l Q) (kPan Q)) (kVal P r N ops l Q s o.dst) :=
  callG (fun _ _ hb hk' => call_p (hc hb) henter ho hd (hx hb) (ha hb) hk') hk
theorem inv_p {o : Oper} {s : MS} {K : MS → Prop} {X : PV → MS → Prop} {x : Operand} {m : String} {as : Array Operand} {ts : Array TypeId} {f : FuncId} {rt : TypeId} {recv : PV} {args rs : List PV}
    (hc : PureF P f (recv :: args) rs) (henter : ∀ args w, (callFunc f args).run P w = .ok (.enter f args) w) (hm : ∀ (v : Value) w, (method (P.types.size + Made.depth) rt v m).run P w = .ok (f, v) w) (ho : o.op = .call { callee := .invoke x m, args := as, argTypes := ts }) (hd : dstOk N o.dst = true) (hx : ev s.env x = some (.iface rt recv)) (ha : evs s.env as.toList = some args)
    (hk : K { s with env := put s.env o.dst (packA rs) }) : OpM P r N o s K X := by
  refine OpM_invoke (l := []) ho hd hx ha hm henter hc (fun i o h => by simp [lk] at h) ?_
  exact callK_pure hk
def Tr (_ : Nat) : Prop := True
omit [Glob] in
@[go_sem low] theorem lt_yes {a b : Nat} (h : a < b) : (a < b) = True := by simp [h]
omit [Glob] in
@[go_sem low] theorem le_yes {a b : Nat} (h : a ≤ b) : (a ≤ b) = True := by simp [h]
def setE (t : Nat) (p : PV) : Env → Env
  | [] => [(t, p)]
  | (k, v) :: r => if k = t then (t, p) :: r else (k, v) :: setE t p r
omit [Glob] in
theorem Wk.of' {s : MS} {K : MS → Prop} (e : Env) (l : List (Nat × AObj)) (hk : K ⟨e, l, s.f0, s.B, s.M, s.df⟩) (h1 : subEnv s.env e) (h2 : subL s.l l) (h3 : keepB s.B s.f0 l s.l) : Wk s.st K := .of hk h1 h2 h3 rfl rfl (Nat.le_refl _) rfl
theorem wpM_loopS {c : Code} {s : MS} {Q : ExitA → MS → Prop} (I : MS → Nat → MS → Prop) (n₀ : Nat) (h₀ : Wk s.st (I s n₀))
    (round : ∀ n s', I s n s' → wpM P r N c s' (ExitA.thenM (fun s1 => Wk s1.st (fun s2 => ∃ n', n' < n ∧ I s n' s2)) Q)) : wpM P r N (.loop c) s Q := wpM_loop (I s) n₀ h₀ round
variable {o : Oper} {e : Env} {f : Nat → Option AObj} {K : Out → Prop} {an : Ann}
theorem loud_p {x : Operand} {as : Array Operand} {ts : Array TypeId} {fn : FuncId} {args rs : List PV} (hc : PureF P fn args rs) (henter : ∀ args w, (callFunc fn args).run P w = .ok (.enter fn args) w)
    (ho : o.op = .call { callee := .value x, args := as, argTypes := ts }) (hx : ev e x = some (.fn (.func fn) [] [])) (ha : evs e as.toList = some args) (hk : an.nm = []) (h : K ⟨packA rs, [], []⟩) : loudC P o e f K an := by
  refine loud_fn (first := []) (cap := []) (ps := args) (l := []) (k := 0) (by simpa [PureF] using hc) henter ho hx ha (fun i o h => by simp [lk] at h) (by rw [hk]; rfl) ?_
  rintro out rfl
  exact ⟨rfl, h⟩
theorem loudG_p {b : Bool} {x : Operand} {as : Array Operand} {ts : Array TypeId} {fn : FuncId} {args rs : List PV} (hc : b = true → PureF P fn args rs) (henter : ∀ args w, (callFunc fn args).run P w = .ok (.enter fn args) w)
    (ho : o.op = .call { callee := .value x, args := as, argTypes := ts }) (hx : b = true → ev e x = some (.fn (.func fn) [] [])) (ha : b = true → evs e as.toList = some args) (hk : an.nm = []) (h : K ⟨gd b (packA rs), [], []⟩) :
    loG (some b) (loudC P o e f K an) K :=
  loudG (fun _ hb h' => loud_p (hc hb) henter ho (hx hb) (ha hb) hk h') h
theorem loudi_p {x : Operand} {m : String} {as : Array Operand} {ts : Array TypeId} {fn : FuncId} {rt : TypeId} {recv : PV} {args rs : List PV} (hc : PureF P fn (recv :: args) rs) (henter : ∀ args w, (callFunc fn args).run P w = .ok (.enter fn args) w) (hm : ∀ (v : Value) w, (method (P.types.size + Made.depth) rt v m).run P w = .ok (fn, v) w)
    (ho : o.op = .call { callee := .invoke x m, args := as, argTypes := ts }) (hx : ev e x = some (.iface rt recv)) (ha : evs e as.toList = some args) (hk : an.nm = []) (h : K ⟨packA rs, [], []⟩) : loudC P o e f K an := by
  refine loud_inv (l := []) (k := 0) hc henter hm ho hx ha (fun i o h => by simp [lk] at h) (by rw [hk]; rfl) ?_
  rintro out rfl
  exact ⟨rfl, h⟩
theorem pureF_of {f : FuncId} {fn : Func} {c : Code} {N : Nat} {args rs : List PV} (hf : P.funcs[f]? = some fn) (hb : fn.body = some c) (hN : fn.ntmps = N) (hargs : args.length ≤ N) (hp : PV.pureL rs = true)
    (h : ∀ f0 B Q, (∀ e s, s.f0 = f0 → s.B = B → s.df = [] → keysIn B [] s.l → resA P s.σ s.env fn.results.toList = some rs → e = .ret ∨ e = .normal → Q e s) → wpM P none N c ⟨envOf 0 args, [], f0, B, B, []⟩ Q) : PureF P f args rs := by
  refine callF_of' hf hb hN hargs fun f0 B ns Q hB hns hQ => h f0 B Q fun e s h1 h2 h3 h4 h5 h6 => ?_
  obtain rfl : ns = [] := List.eq_nil_of_length_eq_zero hns
  have := hQ .ret s (ret0 [] h1 h2 h3 h5 rfl (by rw [h2]; exact h4) (pure_idsL _ hp) trivial trivial)
  rcases h6 with rfl | rfl
  · exact this
  · exact hQ .normal s (ret0n [] h1 h2 h3 h5 rfl (by rw [h2]; exact h4) (pure_idsL _ hp) trivial trivial)
end
attribute [go_sem] setE
end Sg
namespace Sg
open Go
set_option linter.unusedSectionVars false
variable [Glob]
attribute [go_sem] MS.frz subE subAL dels thOf PV.sub PV.subL false_and and_false
omit [Glob] in
@[go_sem] theorem subObj_cells (θ : TypeId → Nat → Nat → Nat → Option PV) (T : TypeId) (cs : List PV) : subObj θ (.cells T cs) = .cells T (PV.subL θ cs) := rfl
omit [Glob] in
@[go_sem] theorem subObj_map (θ : TypeId → Nat → Nat → Nat → Option PV) (es : List (PV × PV)) : subObj θ (.map es) = .map (es.map fun x => (x.1.sub θ, x.2.sub θ)) := rfl
omit [Glob] in
@[go_sem] theorem subObj_loop (θ : TypeId → Nat → Nat → Nat → Option PV) (b d : Nat) (st : LoopState) (pend : Option Code) (fn : FuncId) (N : Nat) (env : Env) (ps : Array Nat) (as body : Code) : subObj θ (.loop b d st pend fn N env ps as body) = .loop b d st pend fn N (mapE (PV.sub θ) env) ps as body := rfl
omit [Glob] in
@[go_sem] theorem subObj_dfr (θ : TypeId → Nat → Nat → Nat → Option PV) (b : Nat) : subObj θ (.dfr b) = .dfr b := rfl
omit [Glob] in
@[go_sem] theorem rep_zero (z : List PV) : rep 0 z = [] := rfl
omit [Glob] in
@[go_sem] theorem rep_one (z : List PV) : rep 1 z = z := by simp [rep]
omit [Glob] in
theorem listIte_yes {α : Type} (c : Prop) [Decidable c] (a b : List α) (h : c) : (if c then a else b) = a := if_pos h
omit [Glob] in
theorem listIte_no {α : Type} (c : Prop) [Decidable c] (a b : List α) (h : ¬ c) : (if c then a else b) = b := if_neg h
omit [Glob] in
theorem natIte_yes (c : Prop) [Decidable c] (a b : Nat) (h : c) : (if c then a else b) = a := if_pos h
omit [Glob] in
theorem natIte_no (c : Prop) [Decidable c] (a b : Nat) (h : ¬ c) : (if c then a else b) = b := if_neg h
attribute [go_sem low] listIte_yes listIte_no natIte_yes natIte_no
omit [Glob] in
@[go_sem] theorem fillA_nil (f : Nat → Option (Nat × Nat)) (cells : List PV) : fillA f cells [] = some cells := by rw [fillA]
omit [Glob] in
@[go_sem] theorem fillA_cons (f : Nat → Option (Nat × Nat)) (cells : List PV) (i : Nat) (v : PV) (rest : List (Nat × PV)) : fillA f cells ((i, v) :: rest) = (match f i with
    | none => none
    | some (off, size) => if v.cellsOf.length = size ∧ off + v.cellsOf.length ≤ cells.length ∧ v.whole = true then fillA f (splice cells off v.cellsOf) rest else none) := by
  rw [fillA]
  cases f i <;> rfl
section
variable {P : Program}
variable {r : Option Nat} {N : Nat}
theorem call_r {o : Oper} {s : MS} {K : MS → Prop} {X : PV → MS → Prop} {x : Operand} {as : Array Operand} {ts : Array TypeId} {f : FuncId} {args rs : List PV} {l : List (Nat × AObj)}
    (hc : CallF P f args l 0 (fun _ o => o = { rs := rs })) (hl : ∀ i o, lk i l = some o → s.f i = some o) (henter : ∀ args w, (callFunc f args).run P w = .ok (.enter f args) w) (ho : o.op = .call { callee := .value x, args := as, argTypes := ts }) (hd : dstOk N o.dst = true) (hx : ev s.env x = some (.fn (.func f) [] [])) (ha : evs s.env as.toList = some args)
    (hk : K { s with env := put s.env o.dst (packA rs) }) : OpM P r N o s K X := by
  refine OpM_call (first := []) (cap := []) (ps := args) (l := l) (k := 0) ho hd hx ha henter (by simpa using hc) hl ?_
  exact callK_pure hk
theorem call_rs {o : Oper} {s : MS} {K : MS → Prop} {X : PV → MS → Prop} {x : Operand} {as : Array Operand} {ts : Array TypeId} {f : FuncId} {args rs : List PV} {l : List (Nat × AObj)}
    (hc : CallF P f args l 0 (fun _ o => o = { rs := rs })) (hl : subF s l) (henter : ∀ args w, (callFunc f args).run P w = .ok (.enter f args) w) (ho : o.op = .call { callee := .value x, args := as, argTypes := ts }) (hd : dstOk N o.dst = true) (hx : ev s.env x = some (.fn (.func f) [] [])) (ha : evs s.env as.toList = some args)
    (hk : K { s with env := put s.env o.dst (packA rs) }) : OpM P r N o s K X := call_r hc (subF_spec hl) henter ho hd hx ha hk
variable {o : Oper} {e : Env} {f : Nat → Option AObj} {K : Out → Prop} {an : Ann}
theorem loud_r {x : Operand} {as : Array Operand} {ts : Array TypeId} {fn : FuncId} {args rs : List PV} {l : List (Nat × AObj)} (hc : CallF P fn args l 0 (fun _ o => o = { rs := rs })) (hl : ∀ i o, lk i l = some o → f i = some o) (henter : ∀ args w, (callFunc fn args).run P w = .ok (.enter fn args) w)
    (ho : o.op = .call { callee := .value x, args := as, argTypes := ts }) (hx : ev e x = some (.fn (.func fn) [] [])) (ha : evs e as.toList = some args) (hk : an.nm = []) (h : K ⟨packA rs, [], []⟩) : loudC P o e f K an := by
  refine loud_fn (first := []) (cap := []) (ps := args) (l := l) (k := 0) (by simpa using hc) henter ho hx ha hl (by rw [hk]; rfl) ?_
  rintro out rfl
  exact ⟨rfl, h⟩
def subG (f : Nat → Option AObj) : List (Nat × AObj) → Prop
  | [] => True
  | (k, o) :: r => f k = some o ∧ subG f r
attribute [go_sem] subG
omit [Glob] in
theorem subG_spec {f : Nat → Option AObj} : {l : List (Nat × AObj)} → subG f l → ∀ i o, lk i l = some o → f i = some o
  | [], _, i, o, h => by simp [lk] at h
  | (k, v) :: r, ⟨h1, h2⟩, i, o, h => by
    simp only [lk] at h
    split at h
    · rename_i e; subst e; injection h with h; subst h; exact h1
    · exact subG_spec h2 i o h
end
end Sg
namespace Sg
open Go
set_option linter.unusedSectionVars false
variable [Glob]
mutual
def PV.le : PV → PV → Prop
  | .emp, .rows _ [] => True
  | .agg a, .agg b => PV.leL a b
  | p, q => p = q
def PV.leL : List PV → List PV → Prop
  | [], [] => True
  | x :: a, y :: b => x.le y ∧ PV.leL a b
  | _, _ => False
end
mutual
theorem le_refl : (p : PV) → p.le p
  | .agg a => by simp only [PV.le]; exact leL_refl a
  | .emp => by simp [PV.le]
  | .bool _ | .int _ _ | .str _ | .nilp | .ptr _ _ | .vptr _ | .kptr _ _ | .rows _ _ | .sl _ _ _ _ | .map _ | .nilm | .nilfn | .fn _ _ _ | .nilif | .iface _ _ | .tuple _ | .dead => by simp [PV.le]
theorem leL_refl : (l : List PV) → PV.leL l l
  | [] => trivial
  | x :: l => ⟨le_refl x, leL_refl l⟩
end
@[go_sem] theorem le_same (p : PV) : p.le p = True := by simp [le_refl]
@[go_sem] theorem leL_same (l : List PV) : PV.leL l l = True := by simp [leL_refl]
omit [Glob] in
@[go_sem] theorem le_emp (e : TypeId) : PV.le .emp (.rows e []) = True := by simp [PV.le]
omit [Glob] in
@[go_sem] theorem leL_cons (x y : PV) (a b : List PV) : PV.leL (x :: a) (y :: b) = (x.le y ∧ PV.leL a b) := by simp [PV.leL]
omit [Glob] in
theorem leL_len : {a b : List PV} → PV.leL a b → a.length = b.length
  | [], [], _ => rfl
  | x :: a, y :: b, h => by simp only [PV.leL] at h; simp [leL_len h.2]
  | [], _ :: _, h => by simp [PV.leL] at h
  | _ :: _, [], h => by simp [PV.leL] at h
omit [Glob] in
theorem leL_get : {a b : List PV} → (h : PV.leL a b) → ∀ j (h1 : j < a.length) (h2 : j < b.length), (a[j]).le b[j]
  | x :: a, y :: b, h, 0, _, _ => by simp only [PV.leL] at h; exact h.1
  | x :: a, y :: b, h, j + 1, h1, h2 => by
    simp only [PV.leL] at h
    exact leL_get h.2 j (by simpa using h1) (by simpa using h2)
  | [], [], _, _, h1, _ => by simp at h1
  | [], _ :: _, h, _, _, _ => by simp [PV.leL] at h
  | _ :: _, [], h, _, _, _ => by simp [PV.leL] at h
omit [Glob] in
theorem le_inv {p q : PV} (h : p.le q) : p = q ∨ (p = .emp ∧ ∃ e, q = .rows e []) ∨ ∃ a b, p = .agg a ∧ q = .agg b ∧ PV.leL a b := by
  cases p with
  | emp =>
    cases q with
    | rows e r =>
      cases r with
      | nil => exact .inr (.inl ⟨rfl, e, rfl⟩)
      | cons x y => simp [PV.le] at h
    | _ => simp [PV.le] at h <;> simp
  | agg a =>
    cases q with
    | agg b => simp only [PV.le] at h; exact .inr (.inr ⟨a, b, rfl, rfl, h⟩)
    | _ => simp [PV.le] at h
  | _ => exact .inl (by simpa [PV.le] using h)
omit [Glob] in
theorem R.le {P : Program} {g : Gh} {p : PV} {v : Value} (h : R P g p v) : ∀ q, p.le q → R P g q v := by
  induction h with
  | emp a =>
    intro q hq
    rcases le_inv hq with rfl | ⟨_, e, rfl⟩ | ⟨a, b, h, _⟩
    · exact .emp a
    · exact .rows0 _ a 0
    · cases h
  | agg cs vs hl h ih =>
    intro q hq
    rcases le_inv hq with rfl | ⟨h, _⟩ | ⟨a, b, e1, rfl, hq⟩
    · exact .agg cs vs hl h
    · cases h
    · injection e1 with e1
      subst e1
      have hlen := leL_len hq
      exact .agg _ vs (by rw [hl, hlen]) (fun j hj => ih j (by omega) _ (leL_get hq j (by omega) hj))
  | bool b => intro q hq; rcases le_inv hq with rfl | ⟨h, _⟩ | ⟨_, _, h, _⟩ <;> first | exact .bool b | cases h
  | int k n => intro q hq; rcases le_inv hq with rfl | ⟨h, _⟩ | ⟨_, _, h, _⟩ <;> first | exact .int k n | cases h
  | str k => intro q hq; rcases le_inv hq with rfl | ⟨h, _⟩ | ⟨_, _, h, _⟩ <;> first | exact .str k | cases h
  | nilp => intro q hq; rcases le_inv hq with rfl | ⟨h, _⟩ | ⟨_, _, h, _⟩ <;> first | exact .nilp | cases h
  | ptr id off b N T h => intro q hq; rcases le_inv hq with rfl | ⟨h, _⟩ | ⟨_, _, h, _⟩ <;> first | exact .ptr id off b N T h | cases h
  | vptr cs b off arr T fr h hn hp hr ih => intro q hq; rcases le_inv hq with rfl | ⟨h, _⟩ | ⟨_, _, h, _⟩ <;> first | exact .vptr cs b off arr T fr h hn hp hr | cases h
  | kptr k ko => intro q hq; rcases le_inv hq with rfl | ⟨h, _⟩ | ⟨_, _, h, _⟩ <;> first | exact .kptr k ko | cases h
  | rows0 e a cap => intro q hq; rcases le_inv hq with rfl | ⟨h, _⟩ | ⟨_, _, h, _⟩ <;> first | exact .rows0 e a cap | cases h
  | rows e r b off cap arr T fr h hes hc hn hl hp hce hr ih => intro q hq; rcases le_inv hq with rfl | ⟨h, _⟩ | ⟨_, _, h, _⟩ <;> first | exact .rows e r b off cap arr T fr h hes hc hn hl hp hce hr | cases h
  | sl e id off len cap b N T h hlc hc => intro q hq; rcases le_inv hq with rfl | ⟨h, _⟩ | ⟨_, _, h, _⟩ <;> first | exact .sl e id off len cap b N T h hlc hc | cases h
  | sl0 e id off a b T h => intro q hq; rcases le_inv hq with rfl | ⟨h, _⟩ | ⟨_, _, h, _⟩ <;> first | exact .sl0 e id off a b T h | cases h
  | map id b N T h => intro q hq; rcases le_inv hq with rfl | ⟨h, _⟩ | ⟨_, _, h, _⟩ <;> first | exact .map id b N T h | cases h
  | nilm => intro q hq; rcases le_inv hq with rfl | ⟨h, _⟩ | ⟨_, _, h, _⟩ <;> first | exact .nilm | cases h
  | nilfn => intro q hq; rcases le_inv hq with rfl | ⟨h, _⟩ | ⟨_, _, h, _⟩ <;> first | exact .nilfn | cases h
  | fn f a c va vc ha hc h1 h2 => intro q hq; rcases le_inv hq with rfl | ⟨h, _⟩ | ⟨_, _, h, _⟩ <;> first | exact .fn f a c va vc ha hc h1 h2 | cases h
  | nilif => intro q hq; rcases le_inv hq with rfl | ⟨h, _⟩ | ⟨_, _, h, _⟩ <;> first | exact .nilif | cases h
  | iface t v u h => intro q hq; rcases le_inv hq with rfl | ⟨h, _⟩ | ⟨_, _, h, _⟩ <;> first | exact .iface t v u h | cases h
  | tuple cs vs hl h => intro q hq; rcases le_inv hq with rfl | ⟨h, _⟩ | ⟨_, _, h, _⟩ <;> first | exact .tuple cs vs hl h | cases h
  | dead v => intro q hq; rcases le_inv hq with rfl | ⟨h, _⟩ | ⟨_, _, h, _⟩ <;> first | exact .dead v | cases h
omit [Glob] in
theorem le_cell {p q : PV} (h : p.le q) (hc : p.cell = true) : q.cell = true := by
  rcases le_inv h with rfl | ⟨rfl, e, rfl⟩ | ⟨a, b, rfl, rfl, _⟩
  · exact hc
  · rfl
  · simp [PV.cell] at hc
def leO : AObj → AObj → Prop
  | .cells T a, .cells T' b => T = T' ∧ PV.leL a b
  | o, o' => o = o'
omit [Glob] in
@[go_sem] theorem leO_cells (T T' : TypeId) (a b : List PV) : leO (.cells T a) (.cells T' b) = (T = T' ∧ PV.leL a b) := rfl
theorem leO_refl (o : AObj) : leO o o := by
  cases o <;> simp [leO, leL_refl]
@[go_sem] theorem leO_same (o : AObj) : leO o o = True := by simp [leO_refl]
def leEnv (e : Env) : Env → Prop
  | [] => True
  | (t, q) :: r => (match get e t with | some p => p.le q | none => False) ∧ leEnv e r
def leObjs (l : List (Nat × AObj)) : List (Nat × AObj) → Prop
  | [] => True
  | (i, o') :: r => (match lk i l with | some o => leO o o' | none => False) ∧ leObjs l r
attribute [go_sem] leEnv leObjs
omit [Glob] in
theorem leEnv_get {e : Env} : {e' : Env} → leEnv e e' → ∀ t q, get e' t = some q → ∃ p, get e t = some p ∧ p.le q
  | [], _, t, q, h => by simp [get] at h
  | (k, v) :: r, ⟨h1, h2⟩, t, q, h => by
    simp only [get] at h
    split at h
    · rename_i e1; subst e1; injection h with h; subst h
      cases hg : get e k with
      | none => rw [hg] at h1; exact h1.elim
      | some p => rw [hg] at h1; exact ⟨p, rfl, h1⟩
    · exact leEnv_get h2 t q h
omit [Glob] in
theorem leObjs_lk {l : List (Nat × AObj)} : {l' : List (Nat × AObj)} → leObjs l l' → ∀ i o', lk i l' = some o' → ∃ o, lk i l = some o ∧ leO o o'
  | [], _, i, o, h => by simp [lk] at h
  | (k, v) :: r, ⟨h1, h2⟩, i, o, h => by
    simp only [lk] at h
    split at h
    · rename_i e1; subst e1; injection h with h; subst h
      cases hg : lk k l with
      | none => rw [hg] at h1; exact h1.elim
      | some p => rw [hg] at h1; exact ⟨p, rfl, h1⟩
    · exact leObjs_lk h2 i o h
section
variable {P : Program} {r : Option Nat} {N : Nat}
theorem wpM_le {c : Code} {s : MS} {Q : ExitA → MS → Prop} (e : Env) (l : List (Nat × AObj)) (h1 : leEnv s.env e) (h2 : leObjs s.l l) (h3 : keepB s.B s.f0 l s.l) (h : wpM P r N c { s with env := e, l := l } Q) : wpM P r N c s Q := by
  refine wpA_turn (st' := MS.st { s with env := e, l := l }) (fun g w a ha hi => ⟨g, .refl g, ⟨⟨ha.env.1, fun t q hq => ?_, ha.env.2.2⟩, ha.df⟩, ?_⟩) h
  · obtain ⟨p, hp, hl⟩ := leEnv_get h1 t q hq
    exact (ha.env.2.1 t p hp).le q hl
  · have hf : ∀ i o, (MS.f { s with env := e, l := l } i) = some o → ∃ o0, s.f i = some o0 ∧ leO o0 o := by
      intro i o h
      simp only [MS.f] at h ⊢
      cases hl : lk i l with
      | some o' =>
        rw [hl] at h; injection h with h; subst h
        obtain ⟨o0, h0, hle⟩ := leObjs_lk h2 i _ hl
        exact ⟨o0, by rw [h0], hle⟩
      | none =>
        rw [hl] at h
        simp only at h
        cases hs : lk i s.l with
        | some o2 =>
          rcases keepB_lk h3 i o2 hs hl with hB | hB
          · rw [if_neg (by omega)] at h; cases h
          · rw [hB] at h; split at h <;> cases h
        | none => exact ⟨o, h, leO_refl o⟩
    refine ⟨hi.hH, fun i o h => ?_, fun i j o o' e1 e2 a b => ?_, fun i o e1 a => ?_, hi.fr, hi.gl⟩
    · obtain ⟨o0, h0, hle⟩ := hf i o h
      have hob := hi.obj i o0 h0
      unfold leO at hle
      split at hle
      · rename_i T a T' b
        obtain ⟨rfl, hle⟩ := hle
        obtain ⟨bk, arr, k1, k2, k3, k4⟩ := hob
        have hlen := leL_len hle
        exact ⟨bk, arr, k1, k2, by omega, fun j hj => ⟨(k4 j (by omega)).1.le _ (leL_get hle j (by omega) hj), le_cell (leL_get hle j (by omega) hj) (k4 j (by omega)).2⟩⟩
      · subst hle; exact hob
    · obtain ⟨o1, h1, _⟩ := hf _ _ a
      obtain ⟨o2, h2, _⟩ := hf _ _ b
      exact hi.inj i j o1 o2 e1 e2 h1 h2
    · obtain ⟨o1, h1, _⟩ := hf _ _ a
      exact hi.dis i o1 e1 h1
end
end Sg
namespace Sg
open Go
set_option linter.unusedSectionVars false
variable [Glob]
omit [Glob] in
theorem method_run {P : Program} {t : TypeId} {info : TypeInfo} {d : TypeDesc} {name : String} {mm : Method} {f : FuncId} (hi : P.info? t = some info) (hu : P.underlying t = some d) (hd : ∀ e, d ≠ .pointer e)
    (hf : info.methods.find? (·.name == name) = some mm) (hp : mm.path = #[]) (hfn : mm.func = some (f, false)) (v : Value) (w : World) : (method (P.types.size + Made.depth) t v name).run P w = .ok (f, v) w := by
  have e : P.types.size + Made.depth = (P.types.size + 99) + 1 := rfl
  have hti : (typeInfo t).run P w = .ok info w := by
    unfold typeInfo
    have hpr : (program : Sem Program).run P w = .ok P w := rfl
    simp only [Sem.run_bind, hpr, Result.andThen_ok, hi]
    rfl
  rw [e, method]
  simp only [Sem.run_bind, hti, Result.andThen_ok, hf, hp, follow, Sem.run_pure, hfn, receiverAt, run_underlying hu]
  cases d <;> first | exact absurd rfl (hd _) | simp [Place.get, Sem.run_bind, Sem.run_pure, Result.andThen_ok]
end Sg
namespace Sg
open Go
set_option linter.unusedSectionVars false
variable [Glob]
section
variable {P : Program} {r : Option Nat} {N : Nat}
def inlL (f : Nat → Option AObj) (M : Nat) : List (Nat × AObj) → Prop
  | [] => True
  | (k, o) :: rest => (f k = some o ∧ k < M) ∧ inlL f M rest
def apartL (l2 : List (Nat × AObj)) : List (Nat × AObj) → Prop
  | [] => True
  | (k, _) :: rest => lk k l2 = none ∧ apartL l2 rest
attribute [go_sem] inlL apartL
omit [Glob] in
theorem inlL_lk {f : Nat → Option AObj} {M : Nat} : {l : List (Nat × AObj)} → inlL f M l → ∀ i o, lk i l = some o → f i = some o ∧ i < M
  | [], _, i, o, h => by simp [lk] at h
  | (k, v) :: rest, ⟨h1, h2⟩, i, o, h => by
    simp only [lk] at h
    split at h
    · rename_i e; subst e; injection h with h; subst h; exact h1
    · exact inlL_lk h2 i o h
omit [Glob] in
theorem apartL_lk {l2 : List (Nat × AObj)} : {l : List (Nat × AObj)} → apartL l2 l → ∀ i o, lk i l = some o → lk i l2 = none
  | [], _, i, o, h => by simp [lk] at h
  | (k, v) :: rest, ⟨h1, h2⟩, i, o, h => by
    simp only [lk] at h
    split at h
    · rename_i e; subst e; exact h1
    · exact apartL_lk h2 i o h
theorem wpM_frameC {c : Code} {s : MS} {Q : ExitA → MS → Prop} (l1 l2 : List (Nat × AObj)) (h1 : inlL s.f s.M l1) (h2 : inlL s.f s.M l2) (hd : apartL l2 l1) (hk : keepB s.B s.f0 (l1 ++ l2) s.l) (hBM : s.B ≤ s.M)
    (h : ∀ f0, wpM P r N c ⟨s.env, l1, cutL l1 f0, s.M, s.M, s.df⟩ (fun e s' => s'.f0 = cutL l1 f0 ∧ s'.B = s.M ∧ keysIn s.M l1 s'.l ∧ keepB s.B s.f0 s'.l l1 ∧ Q e ⟨s'.env, s'.l ++ l2, s.f0, s.B, s'.M, s'.df⟩)) : wpM P r N c s Q := by
  let f0 : Nat → Option AObj := cutL l1 s.f
  have hw : Weak s.st (MS.st ⟨s.env, l1, f0, s.M, s.M, s.df⟩) := by
    refine ⟨fun t p e => .inr e, fun i o hh => ?_, fun i hh => hh, rfl⟩
    simp only [MS.st, MS.σ] at hh ⊢
    have hh : (match lk i l1 with | some o => some o | none => if i < s.M then f0 i else none) = some o := hh
    cases hl : lk i l1 with
    | some o' => rw [hl] at hh; injection hh with hh; subst hh; exact (inlL_lk h1 i _ hl).1
    | none =>
      rw [hl] at hh
      simp only at hh
      split at hh
      · simpa [f0, cutL, hl] using hh
      · cases hh
  refine wpA_weak hw (wpA_mono (h s.f) ?_)
  rintro e st ⟨s', w', e1, e2, e3, e4, hq⟩
  refine ⟨_, w'.trans ?_, hq⟩
  refine ⟨fun t p e => .inr e, fun i o hh => ?_, fun i hh => hh, rfl⟩
  have hh : (match lk i (s'.l ++ l2) with | some o => some o | none => if i < s.B then s.f0 i else none) = some o := hh
  show (match lk i s'.l with | some o => some o | none => if i < s'.B then s'.f0 i else none) = some o
  rw [lk_append] at hh
  cases hl : lk i s'.l with
  | some o' => rw [hl] at hh; exact hh
  | none =>
    rw [hl] at hh
    simp only at hh ⊢
    rw [e1, e2]
    cases hl2 : lk i l2 with
    | some o2 =>
      rw [hl2] at hh
      simp only at hh
      injection hh with hh
      subst hh
      obtain ⟨k1, k2⟩ := inlL_lk h2 i _ hl2
      rw [if_pos k2]
      have hno : lk i l1 = none := by
        cases hl1 : lk i l1 with
        | none => rfl
        | some o1 => have := apartL_lk hd i o1 hl1; rw [hl2] at this; cases this
      simp [f0, cutL, hno, k1]
    | none =>
      rw [hl2] at hh
      simp only at hh
      split at hh
      · rename_i hlt
        by_cases hiM : i < s.M
        · rw [if_pos hiM]
          have hno : lk i l1 = none ∨ ∃ o1, lk i l1 = some o1 := by
            cases lk i l1 with
            | none => exact .inl rfl
            | some o1 => exact .inr ⟨o1, rfl⟩
          rcases hno with hno | ⟨o1, ho1⟩
          · simp only [f0, cutL, hno, Option.isSome_none, Bool.false_eq_true, if_false]
            have : lk i s.l = none := by
              cases hs : lk i s.l with
              | none => rfl
              | some o3 =>
                rcases keepB_lk hk i o3 hs (by rw [lk_append, hno, hl2]) with hB | hB
                · omega
                · rw [hB] at hh; cases hh
            simp only [MS.f, this, if_pos hlt]; exact hh
          · rcases keepB_lk e4 i o1 ho1 hl with hB | hB
            · omega
            · rw [hB] at hh; cases hh
        · omega
      · cases hh
theorem wpM_frame {c : Code} {s : MS} {Q : ExitA → MS → Prop} (l1 l2 : List (Nat × AObj)) (h1 : inlL s.f s.M l1) (h2 : inlL s.f s.M l2) (hd : apartL l2 l1) (hk : keepB s.B s.f0 (l1 ++ l2) s.l) (hBM : s.B ≤ s.M)
    (h : ∀ f0, wpM P r N c ⟨s.env, l1, f0, s.M, s.M, s.df⟩ (fun e s' => s'.f0 = f0 ∧ s'.B = s.M ∧ keysIn s.M l1 s'.l ∧ keepB s.B s.f0 s'.l l1 ∧ Q e ⟨s'.env, s'.l ++ l2, s.f0, s.B, s'.M, s'.df⟩)) : wpM P r N c s Q :=
  wpM_frameC l1 l2 h1 h2 hd hk hBM fun f0 => h _
theorem wpM_wk {c : Code} {s : MS} {Q : ExitA → MS → Prop} (h : wpM P r N c s (fun e s' => Wk s'.st (Q e))) : wpM P r N c s Q := by
  refine wpA_mono h ?_
  rintro e st ⟨s', w, s2, w2, k⟩
  exact ⟨s2, w.trans w2, k⟩
theorem wpM_code {c c' : Code} (e : c' = c) {s : MS} {Q : ExitA → MS → Prop} (h : wpM P r N c' s Q) : wpM P r N c s Q := e ▸ h
theorem OpM_roundK {o : Oper} {s : MS} {K : MS → Prop} {X : PV → MS → Prop} {x : Operand} {as : Array Operand} {ts : Array TypeId} {b : Nat} {vs : List PV} (id : Nat) {d : Nat} {pe : Option Code} {fn : FuncId} {N' : Nat} {env : Env} {ps : Array Nat} {asg body : Code}
    (ho : o.op = .call { callee := .value x, args := as, argTypes := ts }) (hd : dstOk N o.dst = true) (hx : ev s.env x = some (.fn (.yield b) [] [])) (ha : evs s.env as.toList = some vs)
    (hl : s.f id = some (.loop b d .ready pe fn N' env ps asg body)) (hps : ps.size = vs.length) (hpN : ps.toList.all (fun t => decide (t < N')) = true)
    (h : ∀ K' : MS → Prop, (∀ s', K s' → K' s') → wpM P (some b) N' asg ⟨putAll env ps.toList vs, s.l, s.f0, s.B, s.M, []⟩ fun e s1 => e = .normal ∧ ∃ d1 pe1 fn1 N1 env1 ps1 as1 body1, s1.f id = some (.loop b d1 .ready pe1 fn1 N1 env1 ps1 as1 body1) ∧
      wpM P (some b) N' body { s1 with l := setl id (.loop b d1 .busy pe1 fn1 N1 env1 ps1 as1 body1) s1.l } (roundQ id b fun v s2 => K' { s2 with env := put s.env o.dst (.bool v), df := s.df })) : OpM P r N o s K X :=
  OpM_round id ho hd hx ha hl hps hpN (h K fun _ h => h)
theorem OpM_inlineK {o : Oper} {s : MS} {K : MS → Prop} {X : PV → MS → Prop} {x : Operand} {as : Array Operand} {ts : Array TypeId} {f : FuncId} {first cap ps : List PV} {fn : Func} {c : Code} {N' : Nat}
    (hf : P.funcs[f]? = some fn) (hb : fn.body = some c) (hN : fn.ntmps = N') (hargs : (first ++ ps ++ cap).length ≤ N')
    (henter : ∀ args w, (callFunc f args).run P w = .ok (.enter f args) w) (ho : o.op = .call { callee := .value x, args := as, argTypes := ts }) (hd : dstOk N o.dst = true) (hx : ev s.env x = some (.fn (.func f) first cap)) (ha : evs s.env as.toList = some ps)
    (h : ∀ (K' : MS → Prop), (∀ s', K s' → K' s') → wpM P none N' c ⟨envOf 0 (first ++ ps ++ cap), s.l, s.f0, s.B, s.M, []⟩ (endQ P fn.results.toList (fun rs s' => K' { s' with env := put s.env o.dst (packA rs), df := s.df }) (fun v s' => X v { s' with env := s.env, df := s.df }))) : OpM P r N o s K X :=
  OpM_inline hf hb hN hargs henter ho hd hx ha (h K fun _ h => h)
theorem call_cap {o : Oper} {s : MS} {K : MS → Prop} {X : PV → MS → Prop} {x : Operand} {as : Array Operand} {ts : Array TypeId} {f : FuncId} {cap args rs : List PV} {l : List (Nat × AObj)}
    (hc : CallF P f (args ++ cap) l 0 (fun _ o => o = { rs := rs })) (hl : ∀ i o, lk i l = some o → s.f i = some o) (henter : ∀ args w, (callFunc f args).run P w = .ok (.enter f args) w) (ho : o.op = .call { callee := .value x, args := as, argTypes := ts }) (hd : dstOk N o.dst = true) (hx : ev s.env x = some (.fn (.func f) [] cap)) (ha : evs s.env as.toList = some args)
    (hk : K { s with env := put s.env o.dst (packA rs) }) : OpM P r N o s K X := by
  refine OpM_call (first := []) (cap := cap) (ps := args) (l := l) (k := 0) ho hd hx ha henter (by simpa using hc) hl ?_
  exact callK_pure hk
theorem pureF_ofM {f : FuncId} {fn : Func} {c : Code} {N : Nat} {args rs : List PV} (hf : P.funcs[f]? = some fn) (hb : fn.body = some c) (hN : fn.ntmps = N) (hargs : args.length ≤ N) (hp : PV.pureL rs = true)
    (h : ∀ f0 B Q, (∀ ids e s, s.f0 = f0 → s.B = B → s.df = ids.map DA.mark → dfrs s ids → keysIn B [] (dels ids s.l) → resA P (s.undf ids).σ s.env fn.results.toList = some rs → e = .ret ∨ e = .normal → Q e s) → wpM P none N c ⟨envOf 0 args, [], f0, B, B, []⟩ Q) : PureF P f args rs := by
  refine callF_ofM hf hb hN hargs fun f0 B ns Q hB hns hQ => h f0 B Q fun ids e s h1 h2 h3 h4 h5 h6 h7 => ?_
  obtain rfl : ns = [] := List.eq_nil_of_length_eq_zero hns
  rcases h7 with rfl | rfl
  · exact hQ .ret s ⟨ids, h3, h4, ret0 (s := s.undf ids) [] h1 h2 rfl h6 rfl (by show keysIn s.B [] (dels ids s.l); rw [h2]; exact h5) (pure_idsL _ hp) trivial trivial⟩
  · exact hQ .normal s ⟨ids, h3, h4, ret0n (s := s.undf ids) [] h1 h2 rfl h6 rfl (by show keysIn s.B [] (dels ids s.l); rw [h2]; exact h5) (pure_idsL _ hp) trivial trivial⟩
attribute [go_sem] putAll dfrs MS.undf endQ
end
end Sg
namespace Sg
open Go
set_option linter.unusedSectionVars false
variable [Glob]
section
variable {P : Program} {r : Option Nat} {N : Nat}
end
end Sg
namespace Sg
open Go
set_option linter.unusedSectionVars false
variable [Glob]
mutual
def PV.leN (e : TypeId) (id : Nat) : PV → PV → Prop
  | .emp, .sl e' i 0 0 => e' = e ∧ i = id
  | .agg a, .agg b => PV.leNL e id a b
  | p, q => p = q
def PV.leNL (e : TypeId) (id : Nat) : List PV → List PV → Prop
  | [], [] => True
  | x :: a, y :: b => x.leN e id y ∧ PV.leNL e id a b
  | _, _ => False
end
mutual
theorem leN_refl (e : TypeId) (id : Nat) : (p : PV) → p.leN e id p
  | .agg a => by simp only [PV.leN]; exact leNL_refl e id a
  | .emp => by simp [PV.leN]
  | .bool _ | .int _ _ | .str _ | .nilp | .ptr _ _ | .vptr _ | .kptr _ _ | .rows _ _ | .sl _ _ _ _ | .map _ | .nilm | .nilfn | .fn _ _ _ | .nilif | .iface _ _ | .tuple _ | .dead => by simp [PV.leN]
theorem leNL_refl (e : TypeId) (id : Nat) : (l : List PV) → PV.leNL e id l l
  | [] => trivial
  | x :: l => ⟨leN_refl e id x, leNL_refl e id l⟩
end
@[go_sem] theorem leN_same (e : TypeId) (id : Nat) (p : PV) : p.leN e id p = True := by simp [leN_refl]
@[go_sem] theorem leNL_same (e : TypeId) (id : Nat) (l : List PV) : PV.leNL e id l l = True := by simp [leNL_refl]
omit [Glob] in
@[go_sem] theorem leN_emp (e e' : TypeId) (id i : Nat) : PV.leN e id .emp (.sl e' i 0 0) = (e' = e ∧ i = id) := by simp [PV.leN]
omit [Glob] in
@[go_sem] theorem leNL_cons (e : TypeId) (id : Nat) (x y : PV) (a b : List PV) : PV.leNL e id (x :: a) (y :: b) = (x.leN e id y ∧ PV.leNL e id a b) := by simp [PV.leNL]
omit [Glob] in
theorem leNL_len {e : TypeId} {id : Nat} : {a b : List PV} → PV.leNL e id a b → a.length = b.length
  | [], [], _ => rfl
  | x :: a, y :: b, h => by simp only [PV.leNL] at h; simp [leNL_len h.2]
  | [], _ :: _, h => by simp [PV.leNL] at h
  | _ :: _, [], h => by simp [PV.leNL] at h
omit [Glob] in
theorem leNL_get {e : TypeId} {id : Nat} : {a b : List PV} → (h : PV.leNL e id a b) → ∀ j (h1 : j < a.length) (h2 : j < b.length), (a[j]).leN e id b[j]
  | x :: a, y :: b, h, 0, _, _ => by simp only [PV.leNL] at h; exact h.1
  | x :: a, y :: b, h, j + 1, h1, h2 => by
    simp only [PV.leNL] at h
    exact leNL_get h.2 j (by simpa using h1) (by simpa using h2)
  | [], [], _, _, h1, _ => by simp at h1
  | [], _ :: _, h, _, _, _ => by simp [PV.leNL] at h
  | _ :: _, [], h, _, _, _ => by simp [PV.leNL] at h
omit [Glob] in
theorem leN_inv {e : TypeId} {id : Nat} {p q : PV} (h : p.leN e id q) : p = q ∨ (p = .emp ∧ q = .sl e id 0 0) ∨ ∃ a b, p = .agg a ∧ q = .agg b ∧ PV.leNL e id a b := by
  cases p with
  | emp =>
    cases q with
    | sl e' i o n =>
      cases o with
      | zero => cases n with
        | zero => simp only [PV.leN] at h; obtain ⟨rfl, rfl⟩ := h; exact .inr (.inl ⟨rfl, rfl⟩)
        | succ n => simp [PV.leN] at h
      | succ o => simp [PV.leN] at h
    | _ => simp [PV.leN] at h <;> simp
  | agg a =>
    cases q with
    | agg b => simp only [PV.leN] at h; exact .inr (.inr ⟨a, b, rfl, rfl, h⟩)
    | _ => simp [PV.leN] at h
  | _ => exact .inl (by simpa [PV.leN] using h)
omit [Glob] in
theorem R.leN {P : Program} {g : Gh} {e : TypeId} {id b : Nat} {T : TypeId} (hio : g.io id = some (b, 0, T)) {p : PV} {v : Value} (h : R P g p v) : ∀ q, p.leN e id q → R P g q v := by
  induction h with
  | emp a =>
    intro q hq
    rcases leN_inv hq with rfl | ⟨_, rfl⟩ | ⟨a, b, h, _⟩
    · exact .emp a
    · exact .sl0 _ _ _ a b T hio
    · cases h
  | agg cs vs hl h ih =>
    intro q hq
    rcases leN_inv hq with rfl | ⟨h, _⟩ | ⟨a, b, e1, rfl, hq⟩
    · exact .agg cs vs hl h
    · cases h
    · injection e1 with e1
      subst e1
      have hlen := leNL_len hq
      exact .agg _ vs (by rw [hl, hlen]) (fun j hj => ih j (by omega) _ (leNL_get hq j (by omega) hj))
  | bool b => intro q hq; rcases leN_inv hq with rfl | ⟨h, _⟩ | ⟨_, _, h, _⟩ <;> first | exact .bool b | cases h
  | int k n => intro q hq; rcases leN_inv hq with rfl | ⟨h, _⟩ | ⟨_, _, h, _⟩ <;> first | exact .int k n | cases h
  | str k => intro q hq; rcases leN_inv hq with rfl | ⟨h, _⟩ | ⟨_, _, h, _⟩ <;> first | exact .str k | cases h
  | nilp => intro q hq; rcases leN_inv hq with rfl | ⟨h, _⟩ | ⟨_, _, h, _⟩ <;> first | exact .nilp | cases h
  | ptr id off b N T h => intro q hq; rcases leN_inv hq with rfl | ⟨h, _⟩ | ⟨_, _, h, _⟩ <;> first | exact .ptr id off b N T h | cases h
  | vptr cs b off arr T fr h hn hp hr ih => intro q hq; rcases leN_inv hq with rfl | ⟨h, _⟩ | ⟨_, _, h, _⟩ <;> first | exact .vptr cs b off arr T fr h hn hp hr | cases h
  | kptr k ko => intro q hq; rcases leN_inv hq with rfl | ⟨h, _⟩ | ⟨_, _, h, _⟩ <;> first | exact .kptr k ko | cases h
  | rows0 e a cap => intro q hq; rcases leN_inv hq with rfl | ⟨h, _⟩ | ⟨_, _, h, _⟩ <;> first | exact .rows0 e a cap | cases h
  | rows e r b off cap arr T fr h hes hc hn hl hp hce hr ih => intro q hq; rcases leN_inv hq with rfl | ⟨h, _⟩ | ⟨_, _, h, _⟩ <;> first | exact .rows e r b off cap arr T fr h hes hc hn hl hp hce hr | cases h
  | sl e id off len cap b N T h hlc hc => intro q hq; rcases leN_inv hq with rfl | ⟨h, _⟩ | ⟨_, _, h, _⟩ <;> first | exact .sl e id off len cap b N T h hlc hc | cases h
  | sl0 e id off a b T h => intro q hq; rcases leN_inv hq with rfl | ⟨h, _⟩ | ⟨_, _, h, _⟩ <;> first | exact .sl0 e id off a b T h | cases h
  | map id b N T h => intro q hq; rcases leN_inv hq with rfl | ⟨h, _⟩ | ⟨_, _, h, _⟩ <;> first | exact .map id b N T h | cases h
  | nilm => intro q hq; rcases leN_inv hq with rfl | ⟨h, _⟩ | ⟨_, _, h, _⟩ <;> first | exact .nilm | cases h
  | nilfn => intro q hq; rcases leN_inv hq with rfl | ⟨h, _⟩ | ⟨_, _, h, _⟩ <;> first | exact .nilfn | cases h
  | fn f a c va vc ha hc h1 h2 => intro q hq; rcases leN_inv hq with rfl | ⟨h, _⟩ | ⟨_, _, h, _⟩ <;> first | exact .fn f a c va vc ha hc h1 h2 | cases h
  | nilif => intro q hq; rcases leN_inv hq with rfl | ⟨h, _⟩ | ⟨_, _, h, _⟩ <;> first | exact .nilif | cases h
  | iface t v u h => intro q hq; rcases leN_inv hq with rfl | ⟨h, _⟩ | ⟨_, _, h, _⟩ <;> first | exact .iface t v u h | cases h
  | tuple cs vs hl h => intro q hq; rcases leN_inv hq with rfl | ⟨h, _⟩ | ⟨_, _, h, _⟩ <;> first | exact .tuple cs vs hl h | cases h
  | dead v => intro q hq; rcases leN_inv hq with rfl | ⟨h, _⟩ | ⟨_, _, h, _⟩ <;> first | exact .dead v | cases h
omit [Glob] in
theorem leN_cell {e : TypeId} {id : Nat} {p q : PV} (h : p.leN e id q) (hc : p.cell = true) : q.cell = true := by
  rcases leN_inv h with rfl | ⟨rfl, rfl⟩ | ⟨a, b, rfl, rfl, _⟩
  · exact hc
  · rfl
  · simp [PV.cell] at hc
def leNO (e : TypeId) (id : Nat) : AObj → AObj → Prop
  | .cells T a, .cells T' b => T = T' ∧ PV.leNL e id a b
  | o, o' => o = o'
omit [Glob] in
@[go_sem] theorem leNO_cells (e : TypeId) (id : Nat) (T T' : TypeId) (a b : List PV) : leNO e id (.cells T a) (.cells T' b) = (T = T' ∧ PV.leNL e id a b) := rfl
theorem leNO_refl (e : TypeId) (id : Nat) (o : AObj) : leNO e id o o := by
  cases o <;> simp [leNO, leNL_refl]
@[go_sem] theorem leNO_same (e : TypeId) (id : Nat) (o : AObj) : leNO e id o o = True := by simp [leNO_refl]
def leNEnv (e : TypeId) (id : Nat) (v : Env) : Env → Prop
  | [] => True
  | (t, q) :: r => (match get v t with | some p => p.leN e id q | none => False) ∧ leNEnv e id v r
def leNObjs (e : TypeId) (id : Nat) (l : List (Nat × AObj)) : List (Nat × AObj) → Prop
  | [] => True
  | (i, o') :: r => (match lk i l with | some o => leNO e id o o' | none => False) ∧ leNObjs e id l r
attribute [go_sem] leNEnv leNObjs
omit [Glob] in
theorem leNEnv_get {e : TypeId} {id : Nat} {v : Env} : {e' : Env} → leNEnv e id v e' → ∀ t q, get e' t = some q → ∃ p, get v t = some p ∧ p.leN e id q
  | [], _, t, q, h => by simp [get] at h
  | (k, x) :: r, ⟨h1, h2⟩, t, q, h => by
    simp only [get] at h
    split at h
    · rename_i e1; subst e1; injection h with h; subst h
      cases hg : get v k with
      | none => rw [hg] at h1; exact h1.elim
      | some p => rw [hg] at h1; exact ⟨p, rfl, h1⟩
    · exact leNEnv_get h2 t q h
omit [Glob] in
theorem leNObjs_lk {e : TypeId} {id : Nat} {l : List (Nat × AObj)} : {l' : List (Nat × AObj)} → leNObjs e id l l' → ∀ i o', lk i l' = some o' → ∃ o, lk i l = some o ∧ leNO e id o o'
  | [], _, i, o, h => by simp [lk] at h
  | (k, v) :: r, ⟨h1, h2⟩, i, o, h => by
    simp only [lk] at h
    split at h
    · rename_i e1; subst e1; injection h with h; subst h
      cases hg : lk k l with
      | none => rw [hg] at h1; exact h1.elim
      | some p => rw [hg] at h1; exact ⟨p, rfl, h1⟩
    · exact leNObjs_lk h2 i o h
section
variable {P : Program} {r : Option Nat} {N : Nat}
theorem wpM_nil {c : Code} {s : MS} {Q : ExitA → MS → Prop} (e : TypeId) (v : Env) (l : List (Nat × AObj)) (h1 : leNEnv e s.M s.env v) (h2 : leNObjs e s.M s.l l) (h3 : keepB s.B s.f0 l s.l)
    (h : wpM P r N c { s with env := v, l := (s.M, .cells e []) :: l, M := s.M + 1 } Q) : wpM P r N c s Q := by
  refine wpA_turn (st' := MS.st { s with env := v, l := (s.M, .cells e []) :: l, M := s.M + 1 }) (fun g w a ha hi => ?_) h
  have hfree : g.io s.M = none := hi.fr s.M (Nat.le_refl _)
  obtain ⟨g', hg'⟩ : ∃ g' : Gh, g' = ⟨fun i => if i = s.M then some (0, 0, e) else g.io i, g.H⟩ := ⟨_, rfl⟩
  have hle : g.le g' := by
    subst hg'
    refine ⟨fun i x hx => ?_, fun _ _ h => h⟩
    show (if i = s.M then _ else _) = _
    rw [if_neg]
    · exact hx
    · intro e1; rw [e1, hfree] at hx; cases hx
  have hM : g'.io s.M = some (0, 0, e) := by subst hg'; simp
  have hoth : ∀ i, i ≠ s.M → g'.io i = g.io i := by intro i hi; subst hg'; simp [hi]
  have hH : g'.H = g.H := by subst hg'; rfl
  refine ⟨g', hle, ⟨⟨ha.env.1, fun t q hq => ?_, ha.env.2.2.mono hle⟩, ha.df.mono hle⟩, ?_⟩
  · obtain ⟨p, hp, hl⟩ := leNEnv_get h1 t q hq
    exact ((ha.env.2.1 t p hp).mono hle).leN hM q hl
  · have hf : ∀ i o, i ≠ s.M → (MS.f { s with env := v, l := (s.M, .cells e []) :: l, M := s.M + 1 } i) = some o → ∃ o0, s.f i = some o0 ∧ leNO e s.M o0 o := by
      intro i o hne h
      simp only [MS.f, lk] at h ⊢
      rw [if_neg (fun h => hne h.symm)] at h
      cases hl : lk i l with
      | some o' =>
        rw [hl] at h; injection h with h; subst h
        obtain ⟨o0, h0, hle⟩ := leNObjs_lk h2 i _ hl
        exact ⟨o0, by rw [h0], hle⟩
      | none =>
        rw [hl] at h
        simp only at h
        cases hs : lk i s.l with
        | some o2 =>
          rcases keepB_lk h3 i o2 hs hl with hB | hB
          · rw [if_neg (by omega)] at h; cases h
          · rw [hB] at h; split at h <;> cases h
        | none => exact ⟨o, h, leNO_refl e s.M o⟩
    have hfM : ∀ o, (MS.f { s with env := v, l := (s.M, .cells e []) :: l, M := s.M + 1 } s.M) = some o → o = .cells e [] := by
      intro o h; simp [MS.f, lk] at h; exact h.symm
    refine ⟨by rw [hH]; exact hi.hH, fun i o h => ?_, fun i j o o' e1 e2 a b c d p1 p2 p3 => ?_, fun i o e1 a c p1 => ?_, fun i h => ?_, hi.gl.mono hle⟩
    · by_cases hne : i = s.M
      · subst hne
        obtain rfl := hfM o h
        exact ⟨0, #[], hM, .inl rfl, Nat.le_refl _, fun j hj => by simp at hj⟩
      obtain ⟨o0, h0, hlo⟩ := hf i o hne h
      have hob := hi.obj i o0 h0
      have hob' : ObjOk P g' w i o0 := hob.turn (fun b o h => by rw [hH]; exact h) (hoth i hne) (AObj.ids_mono (fun j hj => hoth j (by intro e1; rw [e1, hfree] at hj; cases hj)) hob.named)
      unfold leNO at hlo
      split at hlo
      · rename_i T a T' b
        obtain ⟨rfl, hlo⟩ := hlo
        obtain ⟨bk, arr, k1, k2, k3, k4⟩ := hob'
        have hlen := leNL_len hlo
        exact ⟨bk, arr, k1, k2, by omega, fun j hj => ⟨(k4 j (by omega)).1.leN hM _ (leNL_get hlo j (by omega) hj), leN_cell (leNL_get hlo j (by omega) hj) (k4 j (by omega)).2⟩⟩
      · subst hlo; exact hob'
    · by_cases hi1 : i = s.M
      · subst hi1; rw [hM] at c; injection c with c; subst c; simp at p1
      by_cases hj1 : j = s.M
      · subst hj1; rw [hM] at d; injection d with d; subst d; simp at p2
      obtain ⟨o1, h1, _⟩ := hf _ _ hi1 a
      obtain ⟨o2, h2, _⟩ := hf _ _ hj1 b
      exact hi.inj i j o1 o2 e1 e2 h1 h2 (hoth i hi1 ▸ c) (hoth j hj1 ▸ d) p1 p2 p3
    · by_cases hi1 : i = s.M
      · subst hi1; rw [hM] at c; injection c with c; subst c; simp at p1
      obtain ⟨o1, h1, _⟩ := hf _ _ hi1 a
      rw [hH]
      exact hi.dis i o1 e1 h1 (hoth i hi1 ▸ c) p1
    · have hlt : s.M + 1 ≤ i := h
      rw [hoth i (by omega)]
      exact hi.fr i (show s.M ≤ i by omega)
end
end Sg
namespace Sg
open Go
set_option linter.unusedSectionVars false
variable [Glob]
def rho (y z i : Nat) : Nat := if i = y then z else i
def renK (y z : Nat) : List (Nat × AObj) → List (Nat × AObj)
  | [] => []
  | (k, o) :: r => (rho y z k, o.ren (rho y z)) :: renK y z r
def MS.rn (s : MS) (y : Nat) : MS := { s with env := mapE (PV.ren (rho y s.M)) s.env, l := renK y s.M s.l, M := s.M + 1 }
omit [Glob] in
theorem lk_renK {y z : Nat} (hyz : y ≠ z) : (l : List (Nat × AObj)) → lk z l = none → ∀ i, lk i (renK y z l) = if i = z then (lk y l).map (AObj.ren (rho y z)) else if i = y then none else (lk i l).map (AObj.ren (rho y z))
  | [], _, i => by simp [renK, lk]
  | (k, o) :: r, h, i => by
    simp only [lk] at h
    split at h
    · cases h
    rename_i hkz
    have ih := lk_renK hyz r h i
    simp only [renK, lk, rho, ih]
    by_cases h1 : k = y
    · subst h1
      simp only [if_true]
      by_cases h2 : z = i
      · subst h2; simp
      · rw [if_neg h2]
        have h2' : ¬ i = z := fun e => h2 e.symm
        by_cases h3 : i = k
        · subst h3; simp [h2']
        · have h3' : ¬ k = i := fun e => h3 e.symm
          simp [h2', h3, h3']
    · rw [if_neg h1]
      by_cases h2 : k = i
      · subst h2
        rw [if_pos rfl, if_neg hkz, if_neg h1, if_pos rfl]; rfl
      · rw [if_neg h2, if_neg h2]
        by_cases h3 : i = z
        · rw [if_pos h3, if_pos h3, if_neg h1]
        · rw [if_neg h3, if_neg h3]
section
variable {P : Program} {r : Option Nat} {N : Nat}
theorem rn_ok {s : MS} {y : Nat} {o : AObj} (hy : lk y s.l = some o) (hcut : s.B ≤ y ∨ s.f0 y = none) (hBM : s.B ≤ s.M) (hdf : s.df = []) {g : Gh} {w : World} {a : Act} (ha : RA P g N s.st a) (hi : Inv P g s.σ w) :
    ∃ g', g.le g' ∧ RA P g' N (s.rn y).st a ∧ Inv P g' (s.rn y).σ w := by
  have hfy : s.f y = some o := by simp [MS.f, hy]
  have hMfree : g.io s.M = none := hi.fr s.M (Nat.le_refl _)
  have hyM : y ≠ s.M := by
    rintro rfl
    have := (hi.obj _ o hfy).has
    rw [hMfree] at this; cases this
  have hlM : lk s.M s.l = none := by
    cases h : lk s.M s.l with
    | none => rfl
    | some o' =>
      have := (hi.obj s.M o' (by simp [MS.σ, MS.f, h])).has
      rw [hMfree] at this; cases this
  let ρ := rho y s.M
  let g' : Gh := { io := fun i => if i = s.M then g.io y else g.io i, H := g.H }
  have hle : g.le g' := by
    refine ⟨fun id e h => ?_, fun b o h => h⟩
    show (if id = s.M then g.io y else g.io id) = some e
    rw [if_neg]
    · exact h
    · rintro rfl; rw [hMfree] at h; cases h
  have hio : ∀ id, (g.io id).isSome = true → g'.io (ρ id) = g.io id := by
    intro id h
    show (if (if id = y then s.M else id) = s.M then g.io y else g.io (if id = y then s.M else id)) = g.io id
    by_cases h1 : id = y
    · subst h1; simp
    · rw [if_neg h1, if_neg]
      rintro rfl; rw [hMfree] at h; cases h
  have hR : ∀ p v, R P g p v → R P g' (p.ren ρ) v := fun p v h => R.ren (g' := g') h (fun _ _ h => h) (Sg.ids_mono (fun i hi => hio i hi) _ h.named)
  have hO : ∀ i o n, ObjOk P g w i o → g'.io n = g.io i → ObjOk P g' w n (o.ren ρ) := fun i o n h hn => ObjOk.ren (g' := g') h (fun _ _ h => h) hn (AObj.ids_mono (fun i hi => hio i hi) h.named)
  have hfl : ∀ i o', (s.rn y).σ.f i = some o' → (i = s.M ∧ o' = o.ren ρ) ∨ (i ≠ s.M ∧ i ≠ y ∧ ((∃ o1, s.f i = some o1 ∧ o' = o1.ren ρ) ∨ s.f i = some o')) := by
    intro i o' h
    have h : (match lk i (renK y s.M s.l) with | some o => some o | none => if i < s.B then s.f0 i else none) = some o' := h
    rw [lk_renK hyM _ hlM] at h
    by_cases h1 : i = s.M
    · subst h1
      rw [if_pos rfl, hy] at h
      injection h with h
      exact .inl ⟨rfl, h.symm⟩
    · rw [if_neg h1] at h
      by_cases h2 : i = y
      · subst h2
        rw [if_pos rfl] at h
        simp only at h
        rcases hcut with hc | hc
        · rw [if_neg (by omega)] at h; cases h
        · rw [hc] at h; split at h <;> cases h
      · rw [if_neg h2] at h
        refine .inr ⟨h1, h2, ?_⟩
        cases hl : lk i s.l with
        | some o1 =>
          rw [hl] at h
          injection h with h
          exact .inl ⟨o1, by simp [MS.f, hl], h.symm⟩
        | none =>
          rw [hl] at h
          exact .inr (by simp only [MS.f, hl]; exact h)
  have hback : ∀ i o', (s.rn y).σ.f i = some o' → ∃ j o1, s.f j = some o1 ∧ g'.io i = g.io j ∧ ρ j = i := by
    intro i o' h
    rcases hfl i o' h with ⟨rfl, _⟩ | ⟨h1, h2, h3⟩
    · exact ⟨y, o, hfy, by show (if s.M = s.M then g.io y else _) = _; rw [if_pos rfl], by show (if y = y then s.M else y) = s.M; rw [if_pos rfl]⟩
    · have hx : ∃ o1, s.f i = some o1 := by
        rcases h3 with ⟨o1, h, _⟩ | h
        · exact ⟨o1, h⟩
        · exact ⟨o', h⟩
      obtain ⟨o1, ho1⟩ := hx
      exact ⟨i, o1, ho1, by show (if i = s.M then g.io y else g.io i) = _; rw [if_neg h1], by show (if i = y then s.M else i) = i; rw [if_neg h2]⟩
  refine ⟨g', hle, ⟨⟨ha.env.1, fun t p h => ?_, ha.env.2.2.mono hle⟩, ?_⟩, ⟨hi.hH, fun i o' h => ?_, fun i j o1 o2 e1 e2 h1 h2 k1 k2 p1 p2 hb => ?_, fun i o1 e1 h1 k1 p1 => ?_, fun i h => ?_, hi.gl.mono hle⟩⟩
  · have h : get (mapE (PV.ren ρ) s.env) t = some p := h
    rw [get_mapE] at h
    cases hp : get s.env t with
    | none => rw [hp] at h; cases h
    | some q =>
      rw [hp] at h
      injection h with h
      subst h
      exact hR _ _ (ha.env.2.1 t q hp)
  · have := ha.df
    simp only [MS.st, hdf] at this
    show RDs P g' s.df a.defers
    rw [hdf]
    match hds : a.defers, this with
    | [], _ => trivial
    | _ :: _, h => exact h.elim
  · rcases hfl i o' h with ⟨rfl, rfl⟩ | ⟨h1, h2, ⟨o1, h3, rfl⟩ | h3⟩
    · exact hO y o _ (hi.obj y o hfy) (by show (if s.M = s.M then g.io y else _) = _; rw [if_pos rfl])
    · exact hO i o1 i (hi.obj i o1 h3) (by show (if i = s.M then g.io y else g.io i) = _; rw [if_neg h1])
    · exact ObjOk.turn (g' := g') (hi.obj i o' h3) (fun _ _ h => h) (by show (if i = s.M then g.io y else g.io i) = _; rw [if_neg h1]) (AObj.ids_mono (fun j hj => by
        show (if j = s.M then g.io y else g.io j) = g.io j
        rw [if_neg]; rintro rfl; rw [hMfree] at hj; cases hj) (hi.obj i o' h3).named)
  · obtain ⟨a1, b1, c1, d1, f1⟩ := hback i o1 h1
    obtain ⟨a2, b2, c2, d2, f2⟩ := hback j o2 h2
    rw [d1] at k1
    rw [d2] at k2
    have := hi.inj a1 a2 b1 b2 e1 e2 c1 c2 k1 k2 p1 p2 hb
    rw [← f1, ← f2, this]
  · obtain ⟨a1, b1, c1, d1, f1⟩ := hback i o1 h1
    rw [d1] at k1
    exact hi.dis a1 b1 e1 c1 k1 p1
  · have h : s.M + 1 ≤ i := h
    show (if i = s.M then g.io y else g.io i) = none
    rw [if_neg (by omega)]
    exact hi.fr i (by show s.M ≤ i; omega)
theorem wpM_ren {c : Code} {s : MS} {Q : ExitA → MS → Prop} (y : Nat) (o : AObj) (hy : lk y s.l = some o) (hcut : okDel s.B s.f0 [(y, none)]) (hBM : s.B ≤ s.M) (hdf : s.df = []) (h : wpM P r N c (s.rn y) Q) : wpM P r N c s Q :=
  wpA_turn (fun _ _ _ ha hi => rn_ok hy hcut.1 hBM hdf ha hi) h
end
attribute [go_sem] renK MS.rn mapE
omit [Glob] in
@[go_sem] theorem rho_eq (y z i : Nat) : rho y z i = if i = y then z else i := rfl
end Sg
namespace Sg
open Go
set_option linter.unusedSectionVars false
variable [Glob]
attribute [go_sem ↓] reduceIte Array.reduceGetElem?
attribute [go_sem] Nat.reduceEqDiff Nat.reduceAdd Nat.reduceSub Nat.reduceMul Nat.reduceLeDiff Nat.reduceLT reduceCtorEq Nat.zero_add Nat.add_zero Nat.mul_one
attribute [go_sem] wrap64 Int.reduceNeg Int.reduceLT Int.reduceLE Int.reduceBEq Int.reduceToNat Int.toNat_natCast Int.reduceAdd Bool.true_eq_false Bool.false_eq_true eq_self imp_self forall_const false_implies decide_eq_true_eq decide_eq_false_iff_not not_false_eq_true Bool.not_true Bool.not_false Bool.false_or Bool.or_false Bool.true_or Bool.or_true Bool.false_and Bool.and_false
omit [Glob] in
theorem S_ {p q : Prop} (h : q) (e : q → p := by intro h; simp (maxSteps := 1000000) -implicitDefEqProofs (disch := omega) only [go_sem]; exact h) : p := e h
omit [Glob] in
theorem T_ {p : Prop} (h : p := by simp (maxSteps := 1000000) -implicitDefEqProofs (disch := omega) only [go_sem]) : p := h
omit [Glob] in
theorem F_ {p : Prop} (h : p := by first | rfl | simp (maxSteps := 1000000) -implicitDefEqProofs (disch := omega) only [go_sem]) : p := h
omit [Glob] in
theorem G_ {p : Prop} (h : p := by first | rfl | (simp (maxSteps := 1000000) -implicitDefEqProofs (disch := omega) only [go_sem] <;> rfl)) : p := h
omit [Glob] in
theorem SD_ {p q : Prop} (h : q) (e : q → p := by intro h; simp (contextual := true) (maxSteps := 1000000) -implicitDefEqProofs (disch := first | omega | (simp only [decide_eq_true_eq, decide_eq_false_iff_not, Bool.and_eq_true, Bool.or_eq_false_iff, Bool.not_eq_true'] at *; omega)) only [go_sem]; exact h) : p := e h
omit [Glob] in
theorem SO_ {p q : Prop} (h : q) (e : q → p := by intro h; simp (maxSteps := 1000000) -implicitDefEqProofs (disch := omega) only [go_sem, hO, hA]; exact h) : p := e h
omit [Glob] in
theorem SE_ {p q : Prop} (h : q) (e : q → p := by intro h; simp (contextual := true) (maxSteps := 1000000) -implicitDefEqProofs (disch := first | omega | (simp only [decide_eq_true_eq, decide_eq_false_iff_not, Bool.and_eq_true, Bool.or_eq_false_iff, Bool.not_eq_true'] at *; omega)) only [go_sem, hO, hA]; exact h) : p := e h
def AtL {α : Type} (O : Array α) : Nat → List α → Prop
  | _, [] => True
  | k, x :: l => O[k]? = some x ∧ AtL O (k + 1) l
omit [Glob] in
theorem atL_nil {α : Type} (O : Array α) (k : Nat) : AtL O k [] = True := rfl
omit [Glob] in
theorem atL_cons {α : Type} (O : Array α) (k : Nat) (x : α) (l : List α) : AtL O k (x :: l) = (O[k]? = some x ∧ AtL O (k + 1) l) := rfl
omit [Glob] in
theorem atL_of {α : Type} (O : Array α) : ∀ (l : List α) (k : Nat), (∀ j, (h : j < l.length) → O[k + j]? = some l[j]) → AtL O k l
  | [], _, _ => trivial
  | x :: l, k, h => ⟨h 0 (by simp), atL_of O l (k + 1) fun j hj => by
      have := h (j + 1) (by simpa using hj)
      rw [show k + 1 + j = k + (j + 1) by omega]; simpa using this⟩
omit [Glob] in
theorem atL_self {α : Type} (L : List α) : AtL L.toArray 0 L := atL_of _ L 0 fun j hj => by simp [hj]
section
variable {P : Program} {r : Option Nat} {N : Nat} {ops : List Oper}
theorem wpM_dr (hm : P.follows .mixedOrders = true) (k p : Nat) (tbl : List Nat) (an : List AnI) (ord : List Nat) (pre : List (List Nat)) {id : Nat} {s : MS} {Q : ExitA → MS → Prop} (m : Nat) (hlen : tbl.length = m) (htbl : tbl.Nodup)
    (hc : (checkD N m ops.toArray an ord pre && an.all (fun a => a.nm.all (fun x => decide (p ≤ x) && decide (x < m)))) = true) (hnm : ∀ n ∈ tbl.drop p, s.M ≤ n ∧ n < s.M + k)
    (h' : ∀ (O : Array Oper) (A : Array AnI) (K : MS → Prop), AtL O 0 ops → AtL A 0 an → (∀ s, Q .normal s → K s) → runD P O tbl A ord { s with M := s.M + k } K) : wpM P r N (.region id ops.toArray true) s Q :=
  wpM_drawn hm k p tbl an.toArray ord pre m hlen htbl (by simpa using hc) hnm fun O A K hO hA hK => h' O A K (hO ▸ atL_self ops) (hA ▸ atL_self an) hK
end
end Sg
namespace Sg
open Go
set_option linter.unusedSectionVars false
set_option linter.unusedVariables false
variable [Glob]
def KS (_ : List Nat) : Prop := True
section
variable {P : Program} {r : Option Nat} {N : Nat}
theorem wpM_regionH {ks : List Nat} (_ : KS ks) {id : Nat} {ops : Array Oper} {s : MS} {Q : ExitA → MS → Prop} (hd : ops.toList.all (fun o => dstOk N o.dst) = true)
    (h : ∀ Q' : ExitA → MS → Prop, (∀ e s, keepQ ks Q e s → Q' e s) → runL P r N ops ops.toList s Q') : wpM P r N (.region id ops false) s Q := wpM_regionK ks hd h
end
omit [Glob] in
theorem n_ {p q : Prop} (h : q) (e : q → p := by
  intro h
  repeat (first | refine wpM_seq ?_ | refine wpM_block ?_ | (refine wpM_skip ?_; try simp (maxSteps := 1000000) -implicitDefEqProofs (disch := omega) only [go_sem]) | (refine wpM_exit ?_; try simp (maxSteps := 1000000) -implicitDefEqProofs (disch := omega) only [go_sem]))
  exact h) : p := e h
omit [Glob] in
theorem g_ (ks : List Nat) {p q : Prop} (h : q) (e : KS ks → q → p := by
  intro hk h
  repeat (first | refine wpM_seq ?_ | refine wpM_block ?_ | (refine wpM_skip ?_; try simp (maxSteps := 1000000) -implicitDefEqProofs (disch := omega) only [go_sem]) | (refine wpM_exit ?_; try simp (maxSteps := 1000000) -implicitDefEqProofs (disch := omega) only [go_sem]))
  refine wpM_regionH hk rfl ?_
  intro Q1 hQ1
  simp (maxSteps := 1000000) -implicitDefEqProofs (disch := omega) only [go_sem]
  refine hQ1 _ _ ?_
  simp (maxSteps := 1000000) -implicitDefEqProofs (disch := omega) only [go_sem]
  exact h) : p := e trivial h
omit [Glob] in
theorem gD_ (ks : List Nat) {p q : Prop} (h : q) (e : KS ks → q → p := by
  intro hk h
  repeat (first | refine wpM_seq ?_ | refine wpM_block ?_ | (refine wpM_skip ?_; try simp (maxSteps := 1000000) -implicitDefEqProofs (disch := omega) only [go_sem]) | (refine wpM_exit ?_; try simp (maxSteps := 1000000) -implicitDefEqProofs (disch := omega) only [go_sem]))
  refine wpM_regionH hk rfl ?_
  intro Q1 hQ1
  simp (contextual := true) (maxSteps := 1000000) -implicitDefEqProofs (disch := first | omega | (simp only [decide_eq_true_eq, decide_eq_false_iff_not, Bool.and_eq_true, Bool.or_eq_false_iff, Bool.not_eq_true'] at *; omega)) only [go_sem]
  refine hQ1 _ _ ?_
  simp (maxSteps := 1000000) -implicitDefEqProofs (disch := omega) only [go_sem]
  exact h) : p := e trivial h
omit [Glob] in
theorem c_ {p a b A B : Prop} (h1 : a → A) (h2 : b → B) (e : (a → A) → (b → B) → p := by
  intro h1 h2
  repeat (first | refine wpM_seq ?_ | refine wpM_block ?_ | (refine wpM_skip ?_; try simp (maxSteps := 1000000) -implicitDefEqProofs (disch := omega) only [go_sem]) | (refine wpM_exit ?_; try simp (maxSteps := 1000000) -implicitDefEqProofs (disch := omega) only [go_sem]))
  refine wpM_condK ?_
  simp (maxSteps := 1000000) -implicitDefEqProofs (disch := omega) only [go_sem]
  exact ⟨h1, h2⟩) : p := e h1 h2
omit [Glob] in
theorem c1_ {p q : Prop} (h : q) (e : q → p := by
  intro h
  repeat (first | refine wpM_seq ?_ | refine wpM_block ?_ | (refine wpM_skip ?_; try simp (maxSteps := 1000000) -implicitDefEqProofs (disch := omega) only [go_sem]) | (refine wpM_exit ?_; try simp (maxSteps := 1000000) -implicitDefEqProofs (disch := omega) only [go_sem]))
  refine wpM_condK ?_
  simp (maxSteps := 1000000) -implicitDefEqProofs (disch := omega) only [go_sem]
  exact h) : p := e h
omit [Glob] in
theorem fin1_ {q g : Prop} (_ : q = True) (_ : q) (hg : g) : g := hg
omit [Glob] in
theorem e_ {p q a : Prop} (hr : a) (h : q) (e : a → q → p := by
  intro hr h
  repeat (first | refine wpM_seq ?_ | refine wpM_block ?_ | (refine wpM_skip ?_; try simp (maxSteps := 1000000) -implicitDefEqProofs (disch := omega) only [go_sem]) | (refine wpM_exit ?_; try simp (maxSteps := 1000000) -implicitDefEqProofs (disch := omega) only [go_sem]))
  first | (refine wpM_ret ?_; try simp (maxSteps := 1000000) -implicitDefEqProofs (disch := omega) only [go_sem]) | skip
  first | refine hQ _ _ rfl rfl rfl ?_ ?_ (.inl rfl) | refine hQ _ _ rfl rfl rfl ?_ ?_ (.inr rfl)
  · simp (maxSteps := 1000000) -implicitDefEqProofs (disch := omega) only [go_sem, le_yes, true_or]
  rw [hr]
  first
  | (refine fin1_ rfl h ?_; simp (maxSteps := 1000000) -implicitDefEqProofs (disch := omega) only [go_sem, List.cons.injEq, PV.bool.injEq, PV.int.injEq, PV.agg.injEq]; done)
  | (try simp (maxSteps := 1000000) -implicitDefEqProofs (disch := omega) only [go_sem, List.cons.injEq, PV.bool.injEq, PV.int.injEq, PV.agg.injEq]
     exact h)) : p := e hr h
omit [Glob] in
theorem L_ {p : Prop} (h : p := by
  first
  | (simp (maxSteps := 1000000) -implicitDefEqProofs (disch := omega) only [go_sem, PV.int.injEq, Int.natCast_add, Int.natCast_one, Int.natCast_zero, true_or, le_yes]; done)
  | rfl
  | trivial
  | (simp (maxSteps := 1000000) -implicitDefEqProofs (disch := omega) only [go_sem, PV.int.injEq, Int.natCast_add, Int.natCast_one, Int.natCast_zero, true_or]; simp; done)
  | (simp; done)) : p := h
omit [Glob] in
theorem M_ {p : Prop} (h : p := by
  first
  | omega
  | (simp (maxSteps := 1000000) -implicitDefEqProofs (disch := omega) only [go_sem]; done)
  | (simp (maxSteps := 1000000) -implicitDefEqProofs (disch := omega) only [go_sem]; omega)) : p := h
section
variable {P : Program} {r : Option Nat} {N : Nat}
theorem cp_ {o : Oper} {s : MS} {K : MS → Prop} {X : PV → MS → Prop} {x : Operand} {as : Array Operand} {ts : Array TypeId} {f : FuncId} {args rs : List PV} {q : Prop}
    (hc : PureF P f args rs) (henter : ∀ args w, (callFunc f args).run P w = .ok (.enter f args) w) (h : q)
    (ho : o.op = .call { callee := .value x, args := as, argTypes := ts } := by exact rfl) (hd : dstOk N o.dst = true := by exact rfl)
    (hx : ev s.env x = some (.fn (.func f) [] []) := by first | exact rfl | simp (maxSteps := 1000000) -implicitDefEqProofs (disch := omega) only [go_sem])
    (ha : evs s.env as.toList = some args := by first | exact rfl | (simp (maxSteps := 1000000) -implicitDefEqProofs (disch := omega) only [go_sem] <;> rfl))
    (e : q → K { s with env := put s.env o.dst (packA rs) } := by
      intro h
      simp (maxSteps := 1000000) -implicitDefEqProofs (disch := omega) only [go_sem]
      exact h) : OpM P r N o s K X := call_p hc henter ho hd hx ha (e h)
theorem cpD_ {o : Oper} {s : MS} {K : MS → Prop} {X : PV → MS → Prop} {x : Operand} {as : Array Operand} {ts : Array TypeId} {f : FuncId} {args rs : List PV} {q : Prop}
    (hc : PureF P f args rs) (henter : ∀ args w, (callFunc f args).run P w = .ok (.enter f args) w) (h : q)
    (ho : o.op = .call { callee := .value x, args := as, argTypes := ts } := by exact rfl) (hd : dstOk N o.dst = true := by exact rfl)
    (hx : ev s.env x = some (.fn (.func f) [] []) := by first | exact rfl | simp (maxSteps := 1000000) -implicitDefEqProofs (disch := omega) only [go_sem])
    (ha : evs s.env as.toList = some args := by first | exact rfl | (simp (maxSteps := 1000000) -implicitDefEqProofs (disch := omega) only [go_sem] <;> rfl))
    (e : q → K { s with env := put s.env o.dst (packA rs) } := by
      intro h
      simp (contextual := true) (maxSteps := 1000000) -implicitDefEqProofs (disch := first | omega | (simp only [decide_eq_true_eq, decide_eq_false_iff_not, Bool.and_eq_true, Bool.or_eq_false_iff, Bool.not_eq_true'] at *; omega)) only [go_sem]
      exact h) : OpM P r N o s K X := call_p hc henter ho hd hx ha (e h)
theorem cg_ {ops : Array Oper} {l : List Oper} {Q : ExitA → MS → Prop} {s : MS} {o : Oper} {b : Bool} {x : Operand} {as : Array Operand} {ts : Array TypeId} {f : FuncId} {args rs : List PV} {q : Prop}
    (hc : b = true → PureF P f args rs) (henter : ∀ args w, (callFunc f args).run P w = .ok (.enter f args) w) (h : q)
    (ho : o.op = .call { callee := .value x, args := as, argTypes := ts } := by exact rfl) (hd : dstOk N o.dst = true := by exact rfl)
    (hx : b = true → ev s.env x = some (.fn (.func f) [] []) := by intro hb; simp (maxSteps := 1000000) -implicitDefEqProofs (disch := omega) only [go_sem]; done)
    (ha : b = true → evs s.env as.toList = some args := by intro hb; first | exact rfl | (simp (maxSteps := 1000000) -implicitDefEqProofs (disch := omega) only [hb, gd_of hb, go_sem] <;> rfl); done)
    (e : q → kVal P r N ops l Q s o.dst (gd b (packA rs)) := by
      intro h
      simp (contextual := true) (maxSteps := 1000000) -implicitDefEqProofs (disch := first | omega | (simp only [decide_eq_true_eq, decide_eq_false_iff_not, Bool.and_eq_true, Bool.or_eq_false_iff, Bool.not_eq_true'] at *; omega)) only [go_sem]
      exact h) :
    opG (some b) (OpM P r N o s (kRun P r N ops l Q) (kPan Q)) (kVal P r N ops l Q s o.dst) := callG_p hc henter ho hd hx ha (e h)
theorem dr_ (hm : P.follows .mixedOrders = true) (ks : List Nat) (k p : Nat) (tbl : List Nat) (an : List AnI) (ord : List Nat) (pre : List (List Nat)) {id : Nat} {s : MS} {Q : ExitA → MS → Prop} {ops : List Oper} (m : Nat)
    (h' : ∀ (O : Array Oper) (A : Array AnI) (K : MS → Prop), AtL O 0 ops → AtL A 0 an → (∀ s, keepQ ks Q .normal s → K s) → runD P O tbl A ord { s with M := s.M + k } K)
    (hc : (checkD N m ops.toArray an ord pre && an.all (fun a => a.nm.all (fun x => decide (p ≤ x) && decide (x < m)))) = true := by decide +kernel) (hlen : tbl.length = m := by exact rfl) (htbl : tbl.Nodup := by simp) (hnm : ∀ n ∈ tbl.drop p, s.M ≤ n ∧ n < s.M + k := by simp) :
    wpM P r N (.region id ops.toArray true) s Q := wpM_keep ks (wpM_dr hm k p tbl an ord pre m hlen htbl hc hnm h')
variable {o : Oper} {e : Env} {f : Nat → Option AObj} {K : Out → Prop} {an : Ann}
theorem lp_ {x : Operand} {as : Array Operand} {ts : Array TypeId} {fn : FuncId} {args rs : List PV} {q : Prop} (hc : PureF P fn args rs) (henter : ∀ args w, (callFunc fn args).run P w = .ok (.enter fn args) w) (h : q)
    (ho : o.op = .call { callee := .value x, args := as, argTypes := ts } := by exact rfl) (hx : ev e x = some (.fn (.func fn) [] []) := by exact rfl) (ha : evs e as.toList = some args := by first | exact rfl | (simp (maxSteps := 1000000) -implicitDefEqProofs (disch := omega) only [go_sem] <;> rfl)) (hk : an.nm = [] := by exact rfl)
    (e' : q → K ⟨packA rs, [], []⟩ := by
      intro h
      simp (maxSteps := 1000000) -implicitDefEqProofs (disch := omega) only [go_sem, hO, hA]
      exact h) : loudC P o e f K an := loud_p hc henter ho hx ha hk (e' h)
theorem lpE_ {x : Operand} {as : Array Operand} {ts : Array TypeId} {fn : FuncId} {args rs : List PV} {q : Prop} (hc : PureF P fn args rs) (henter : ∀ args w, (callFunc fn args).run P w = .ok (.enter fn args) w) (h : q)
    (ho : o.op = .call { callee := .value x, args := as, argTypes := ts } := by exact rfl) (hx : ev e x = some (.fn (.func fn) [] []) := by exact rfl) (ha : evs e as.toList = some args := by first | exact rfl | (simp (maxSteps := 1000000) -implicitDefEqProofs (disch := omega) only [go_sem] <;> rfl)) (hk : an.nm = [] := by exact rfl)
    (e' : q → K ⟨packA rs, [], []⟩ := by
      intro h
      simp (contextual := true) (maxSteps := 1000000) -implicitDefEqProofs (disch := first | omega | (simp only [decide_eq_true_eq, decide_eq_false_iff_not, Bool.and_eq_true, Bool.or_eq_false_iff, Bool.not_eq_true'] at *; omega)) only [go_sem, hO, hA]
      exact h) : loudC P o e f K an := loud_p hc henter ho hx ha hk (e' h)
theorem lg_ {b : Bool} {x : Operand} {as : Array Operand} {ts : Array TypeId} {fn : FuncId} {args rs : List PV} {q : Prop} (hc : b = true → PureF P fn args rs) (henter : ∀ args w, (callFunc fn args).run P w = .ok (.enter fn args) w) (h : q)
    (ho : o.op = .call { callee := .value x, args := as, argTypes := ts } := by exact rfl) (hx : b = true → ev e x = some (.fn (.func fn) [] []) := by intro hb; simp (maxSteps := 1000000) -implicitDefEqProofs (disch := omega) only [go_sem]; done) (ha : b = true → evs e as.toList = some args := by intro hb; first | exact rfl | (simp (maxSteps := 1000000) -implicitDefEqProofs (disch := omega) only [hb, gd_of hb, go_sem] <;> rfl); done) (hk : an.nm = [] := by exact rfl)
    (e' : q → K ⟨gd b (packA rs), [], []⟩ := by
      intro h
      simp (contextual := true) (maxSteps := 1000000) -implicitDefEqProofs (disch := first | omega | (simp only [decide_eq_true_eq, decide_eq_false_iff_not, Bool.and_eq_true, Bool.or_eq_false_iff, Bool.not_eq_true'] at *; omega)) only [go_sem, hO, hA]
      exact h) :
    loG (some b) (loudC P o e f K an) K := loudG_p hc henter ho hx ha hk (e' h)
end
end Sg
namespace Sg
open Go
set_option linter.unusedSectionVars false
variable [Glob]
section
variable {P : Program}
def AObj.flat : AObj → Bool
  | .cells _ cs => PV.flatL cs
  | _ => false
structure FlatOut (out : COut) : Prop where
  pan : out.pan = none
  u : out.u = []
  rs : PV.flatL out.rs = true
  nw : ∀ x ∈ out.nw, x.2.flat = true
omit [Glob] in
theorem lk_mem {i : Nat} {o : AObj} : {l : List (Nat × AObj)} → lk i l = some o → (i, o) ∈ l
  | [], h => by simp [lk] at h
  | (k, v) :: r, h => by
    simp only [lk] at h
    split at h
    · rename_i e1; subst e1; injection h with h; subst h; simp
    · exact List.mem_cons_of_mem _ (lk_mem h)
def ThOk (P : Program) (θ : TypeId → Nat → Nat → Nat → Option PV) (lst : List (Nat × AObj)) : Prop :=
  ∀ (σ : Store) (g g1 : Gh) (w : World), (∀ i o, lk i lst = some o → σ.f i = some o) → Inv P g σ w → g.le g1 → (∀ id o b N T, σ.f id = some o → g.io id = some (b, N, T) → 0 < N → g1.H b = w.heap[b]?) →
    ∀ e id off n q u, θ e id off n = some q → R P g (.sl e id off n) u → R P g1 q u
theorem CallF.borrowG {f : FuncId} {args : List PV} {lst : List (Nat × AObj)} {k : Nat} {Ω : List Nat → COut → Prop} (θ : TypeId → Nat → Nat → Nat → Option PV) (hfo : ∀ ns out, ns.length = k → Ω ns out → FlatOut out)
    (hr : ThOk P θ lst) (h : CallF P f (PV.subL θ args) [] k Ω) : CallF P f args lst k Ω := by
  classical
  intro σ ns hinf hl hk hnd hnf g w vals hv hi
  let fb : Nat → Prop := fun b => ∃ id o N T, σ.f id = some o ∧ g.io id = some (b, N, T) ∧ 0 < N
  let g1 : Gh := { io := g.io, H := fun b => if fb b then w.heap[b]? else g.H b }
  have hnone : ∀ b, fb b → g.H b = none := by
    rintro b ⟨id, o, N', T, ho, hio, hN⟩
    exact hi.dis id o _ ho hio hN
  have hle : g.le g1 := by
    refine ⟨fun _ _ h => h, fun b o h => ?_⟩
    show (if fb b then w.heap[b]? else g.H b) = some o
    rw [if_neg]
    · exact h
    · intro hb; rw [hnone b hb] at h; cases h
  have hθ : ∀ e id off n q u, θ e id off n = some q → R P g (.sl e id off n) u → R P g1 q u :=
    hr σ g g1 w hl hi hle fun id o b N' T ho hio hN => by
      show (if fb b then w.heap[b]? else g.H b) = w.heap[b]?
      rw [if_pos]
      exact ⟨id, _, N', T, ho, hio, hN⟩
  let σ1 : Store := { f := fun _ => none, fr := σ.fr }
  have hi1 : Inv P g1 σ1 w := by
    refine ⟨fun b o hb => ?_, fun i o h => (by cases h), fun i j o o' e e' h => (by cases h), fun i o e h => (by cases h), hi.fr, hi.gl.mono hle⟩
    have hb : (if fb b then w.heap[b]? else g.H b) = some o := hb
    split at hb
    · exact hb
    · exact hi.hH b o hb
  have hcall := h σ1 ns hinf (fun i o h => by simp [lk] at h) hk hnd hnf g1 w vals (hv.sub hle hθ) hi1
  refine hcall.mono ?_
  rintro e w' ⟨g', out, k1, k2, k3, k4, k5, k6⟩
  obtain ⟨f1, f2, f3, f4⟩ := hfo ns out hk k5
  obtain ⟨g2, hg2⟩ : ∃ g2 : Gh, g2 = { io := g'.io, H := g.H } := ⟨_, rfl⟩
  have hio2 : g2.io = g'.io := by rw [hg2]
  have hH2 : g2.H = g.H := by rw [hg2]
  have hle2 : g.le g2 := ⟨fun i x hx => by rw [hio2]; exact k1.io i x hx, fun b o hb => by rw [hH2]; exact hb⟩
  have hsame : ∀ b, fb b → ∀ o, w.heap[b]? = some o → w'.heap[b]? = some o := by
    intro b hb o ho
    refine k3.hH b o (k1.H b o ?_)
    show (if fb b then w.heap[b]? else g.H b) = some o
    rw [if_pos hb]; exact ho
  have hnew : ∀ i o, lk i out.nw = some o → (σ1.after out.u out.nw).f i = some o := by
    intro i o h; simp only [Store.after, h]
  have hold : ∀ i, lk i out.nw = none → (σ.after out.u out.nw).f i = σ.f i := by
    intro i h; simp only [Store.after, h, f2]; simp [lk]
  have hcase : ∀ i o, (σ.after out.u out.nw).f i = some o → lk i out.nw = some o ∨ (lk i out.nw = none ∧ σ.f i = some o) := by
    intro i o h
    cases hq : lk i out.nw with
    | some o' => left; simp only [Store.after, hq] at h; exact h
    | none => right; rw [hold i hq] at h; exact ⟨rfl, h⟩
  have hoio : ∀ i o, σ.f i = some o → g2.io i = g.io i := by
    intro i o h
    obtain ⟨x, hx⟩ := Option.isSome_iff_exists.1 (hi.obj i o h).has
    rw [hx]; exact hle2.io i x hx
  refine ⟨g2, out, hle2, k2, ?_, k4, k5, ?_⟩
  · refine ⟨fun b o hb => ?_, fun i o ho => ?_, fun i j o o' e1 e2 a b c d p1 p2 p3 => ?_, fun i o e1 a c p1 => ?_, fun i hfr => ?_, hi.gl.mono hle2⟩
    · rw [hH2] at hb
      exact k3.hH b o (k1.H b o (hle.H b o hb))
    · rcases hcase i o ho with hn | ⟨_, hso⟩
      · have hob := k3.obj i o (hnew i o hn)
        have hfl := f4 _ (lk_mem hn)
        cases o with
        | cells T cs =>
          obtain ⟨b, arr, m1, m2, m3, m4⟩ := hob
          exact ⟨b, arr, by rw [hio2]; exact m1, m2, m3, fun j hj => ⟨(m4 j hj).1.flatH hio2 ((flatL_iff _).1 hfl _ (List.getElem_mem hj)), (m4 j hj).2⟩⟩
        | _ => simp [AObj.flat] at hfl
      · have hob := (hi.obj i o hso)
        have hob2 : ObjOk P g2 w i o := hob.turn (fun b o h => hle2.H b o h) (hoio i o hso) (AObj.ids_mono (fun j hj => by
          obtain ⟨x, hx⟩ := Option.isSome_iff_exists.1 hj
          rw [hx]; exact hle2.io j x hx) hob.named)
        have hio0 := hoio i o hso
        cases o with
        | cells T cs =>
          obtain ⟨b, arr, m1, m2, m3, m4⟩ := hob2
          refine ⟨b, arr, m1, ?_, m3, m4⟩
          by_cases hz : arr.size = 0
          · exact .inl hz
          · exact .inr (hsame b ⟨i, _, arr.size, T, hso, hio0 ▸ m1, Nat.pos_of_ne_zero hz⟩ _ (m2.resolve_left hz))
        | map es =>
          obtain ⟨b, ms, c, m1, m2, m3⟩ := hob2
          exact ⟨b, ms, c, m1, hsame b ⟨i, _, 1, 0, hso, hio0 ▸ m1, Nat.one_pos⟩ _ m2, m3⟩
        | loop b d st pend fn N env ps as body =>
          obtain ⟨m1, tmps, m2, m3⟩ := hob2
          exact ⟨m1, tmps, hsame b ⟨i, _, 1, 0, hso, hio0 ▸ m1, Nat.one_pos⟩ _ m2, m3⟩
        | dfr b => exact ⟨hob2.1, hsame b ⟨i, _, 1, 0, hso, hio0 ▸ hob2.1, Nat.one_pos⟩ _ hob2.2⟩
    · have mix : ∀ i j o o' (e1 e2 : Nat × Nat × TypeId), lk i out.nw = some o → σ.f j = some o' → g2.io i = some e1 → g2.io j = some e2 → 0 < e1.2.1 → 0 < e2.2.1 → e1.1 = e2.1 → False := by
        intro i j o o' e1 e2 a b c d p1 p2 p3
        have hn := k3.dis i o e1 (hnew i o a) (by rw [← hio2]; exact c) p1
        have hjo := hoio j o' b
        have hfb : fb e1.1 := ⟨j, o', e2.2.1, e2.2.2, b, by rw [← hjo, d, p3], p2⟩
        have hob := hi.obj j o' b
        have hex : ∃ ob, w.heap[e1.1]? = some ob := by
          have d' : g.io j = some e2 := by rw [← hjo]; exact d
          cases o' with
          | cells T cs =>
            obtain ⟨b, arr, m1, m2, _⟩ := hob
            rw [d'] at m1; injection m1 with m1; subst m1
            rcases m2 with m2 | m2
            · simp [m2] at p2
            · exact ⟨_, by rw [p3]; exact m2⟩
          | map es => obtain ⟨b, ms, c, m1, m2, _⟩ := hob; rw [d'] at m1; injection m1 with m1; subst m1; exact ⟨_, by rw [p3]; exact m2⟩
          | loop b d st pend fn N env ps as body => obtain ⟨m1, tmps, m2, _⟩ := hob; rw [d'] at m1; injection m1 with m1; subst m1; exact ⟨_, by rw [p3]; exact m2⟩
          | dfr b => obtain ⟨m1, m2⟩ := hob; rw [d'] at m1; injection m1 with m1; subst m1; exact ⟨_, by rw [p3]; exact m2⟩
        obtain ⟨ob, hob⟩ := hex
        have : g1.H e1.1 = some ob := by
          show (if fb e1.1 then w.heap[e1.1]? else g.H e1.1) = some ob
          rw [if_pos hfb]; exact hob
        rw [k1.H _ _ this] at hn; cases hn
      rcases hcase i o a with ha | ⟨_, ha⟩ <;> rcases hcase j o' b with hb | ⟨_, hb⟩
      · exact k3.inj i j o o' e1 e2 (hnew i o ha) (hnew j o' hb) (by rw [← hio2]; exact c) (by rw [← hio2]; exact d) p1 p2 p3
      · exact (mix i j o o' e1 e2 ha hb c d p1 p2 p3).elim
      · exact (mix j i o' o e2 e1 hb ha d c p2 p1 p3.symm).elim
      · exact hi.inj i j o o' e1 e2 ha hb (by rw [← hoio i o ha]; exact c) (by rw [← hoio j o' hb]; exact d) p1 p2 p3
    · rw [hH2]
      rcases hcase i o a with ha | ⟨_, ha⟩
      · have hn := k3.dis i o e1 (hnew i o ha) (by rw [← hio2]; exact c) p1
        cases hq : g.H e1.1 with
        | none => rfl
        | some ob => rw [k1.H _ _ (hle.H _ _ hq)] at hn; cases hn
      · exact hi.dis i o e1 ha (by rw [← hoio i o ha]; exact c) p1
    · rw [hio2]; exact k3.fr i hfr
  · rw [f1] at k6 ⊢
    cases e with
    | returned v => exact R.flatH k6 hio2 (packA_flat f3)
    | panicked ch => exact k6.elim
    | outgrown => exact k6.elim
theorem rows_of_slN {g g' : Gh} {σ : Store} {w : World} (hi : Inv P g σ w) {e : TypeId} {id off n : Nat} {r : List (List PV)} {F : PV → PV} (hes : 0 < P.cellsOf e) (hl : r.length = n) (hc : ∀ c ∈ r, c.length = P.cellsOf e ∧ PV.pureL c = true) {T' : TypeId} {cs : List PV} (ho : σ.f id = some (.cells T' cs))
    (hle : off + n * P.cellsOf e ≤ cs.length) (hfl : ((cs.drop off).take (n * P.cellsOf e)).map F = r.flatten) (hF : ∀ k (hk : k < cs.length) v, off ≤ k → k < off + n * P.cellsOf e → R P g cs[k] v → cs[k].cell = true → R P g' (F cs[k]) v ∧ (F cs[k]).cell = true)
    (hH : ∀ b N T, g.io id = some (b, N, T) → 0 < N → g'.H b = w.heap[b]?) {v : Value} (hv : R P g (.sl e id off n) v) : R P g' (.rows e r) v := by
  cases hv with
  | sl0 _ _ _ a b T hio =>
    have : r = [] := List.eq_nil_of_length_eq_zero hl
    subst this
    exact .rows0 e a 0
  | sl _ _ _ _ cap b N T hio hlc hcc =>
    obtain ⟨rfl, arr, hN, hh, hcs, hrr⟩ := cells_at hi ho hio
    by_cases h0 : n = 0
    · subst h0
      have : r = [] := List.eq_nil_of_length_eq_zero hl
      subst this
      exact .rows0 e _ cap
    · have hpos : 0 < n * P.cellsOf e := Nat.mul_pos (Nat.pos_of_ne_zero h0) hes
      have hh := hh.resolve_left (by omega)
      have hHb := hH b N T hio (by omega)
      rw [hh] at hHb
      rw [← hl] at hle hfl hlc hF ⊢
      have hfl' : r.flatten.length = r.length * P.cellsOf e := flatten_len _ r (fun c hc' => (hc c hc').1)
      have key : ∀ i j (hi' : i < r.length) (hj : j < (r[i]).length), ∃ (h1 : off + i * P.cellsOf e + j < cs.length), off + i * P.cellsOf e + j < off + r.length * P.cellsOf e ∧ r[i][j] = F cs[off + i * P.cellsOf e + j] := by
        intro i j hi' hj
        have hci := (hc _ (List.getElem_mem hi')).1
        have hm : (i + 1) * P.cellsOf e ≤ r.length * P.cellsOf e := Nat.mul_le_mul_right _ hi'
        rw [Nat.add_mul] at hm
        have hlt : i * P.cellsOf e + j < r.flatten.length := by rw [hfl']; omega
        obtain ⟨k1, k2, k3⟩ := flatten_get _ hes r (fun c hc' => (hc c hc').1) (i * P.cellsOf e + j) hlt
        have d1 : (i * P.cellsOf e + j) / P.cellsOf e = i := by rw [Nat.mul_comm, Nat.mul_add_div hes]; rw [Nat.div_eq_of_lt (by omega)]; omega
        have d2 : (i * P.cellsOf e + j) % P.cellsOf e = j := by rw [Nat.mul_comm, Nat.mul_add_mod]; exact Nat.mod_eq_of_lt (by omega)
        refine ⟨by omega, by omega, ?_⟩
        have e1 : r.flatten[i * P.cellsOf e + j] = r[i][j] := by rw [k3]; congr 1 <;> simp [d1, d2]
        rw [← e1]
        have e2 : r.flatten[i * P.cellsOf e + j] = (((cs.drop off).take (r.length * P.cellsOf e)).map F)[i * P.cellsOf e + j]'(by rw [hfl]; exact hlt) := by congr 1; exact hfl.symm
        rw [e2]
        simp [Nat.add_assoc]
      refine .rows e r b off cap arr T (0, 0) hHb hes hlc (by omega) (fun c hc' => (hc c hc').1) (fun c hc' => (hc c hc').2) ?_ ?_
      · intro c hc' x hx
        obtain ⟨i, hi', rfl⟩ := List.getElem_of_mem hc'
        obtain ⟨j, hj, rfl⟩ := List.getElem_of_mem hx
        obtain ⟨k1, k2, k3⟩ := key i j hi' hj
        rw [k3]; exact (hF _ k1 _ (by omega) k2 (hrr _ k1).1 (hrr _ k1).2).2
      · intro i j hi' hj
        obtain ⟨k1, k2, k3⟩ := key i j hi' hj
        rw [k3]
        exact (hF _ k1 _ (by omega) k2 (hrr _ k1).1 (hrr _ k1).2).1
def RowsN (P : Program) (θ : TypeId → Nat → Nat → Nat → Option PV) (f : Nat → Option AObj) (e : TypeId) (id off n : Nat) (r : List (List PV)) : Prop :=
  0 < P.cellsOf e ∧ r.length = n ∧ (∀ c ∈ r, c.length = P.cellsOf e ∧ PV.pureL c = true) ∧ ∃ T cs, f id = some (.cells T cs) ∧ off + n * P.cellsOf e ≤ cs.length ∧ ((cs.drop off).take (n * P.cellsOf e)).map (PV.sub θ) = r.flatten ∧
    ∀ k (hk : k < cs.length), off ≤ k → k < off + n * P.cellsOf e → cs[k].pure = true ∨ ∃ e' id' off' n' q, cs[k] = .sl e' id' off' n' ∧ θ e' id' off' n' = some q
theorem rows_size {e : TypeId} {r : List (List PV)} {q : PV} (h : q ∈ r.flatten) : SizeOf.sizeOf q < SizeOf.sizeOf (PV.rows e r) := by
  obtain ⟨c, hc, hq⟩ := List.mem_flatten.1 h
  have h1 := List.sizeOf_lt_of_mem hc
  have h2 := List.sizeOf_lt_of_mem hq
  simp only [PV.rows.sizeOf_spec]
  omega
theorem thOk_nest {t : List (TypeId × Nat × Nat × Nat × List (List PV))} {lst : List (Nat × AObj)} (hr : ∀ x ∈ t, RowsN P (thOf t) (fun i => lk i lst) x.1 x.2.1 x.2.2.1 x.2.2.2.1 x.2.2.2.2) : ThOk P (thOf t) lst := by
  intro σ g g1 w hl hi hle hH
  have key : ∀ k : Nat, ∀ e id off n q u, SizeOf.sizeOf q ≤ k → thOf t e id off n = some q → R P g (.sl e id off n) u → R P g1 q u := by
    intro k
    induction k with
    | zero =>
      intro e id off n q u hk
      have : 0 < SizeOf.sizeOf q := by cases q <;> simp <;> omega
      omega
    | succ k ih =>
      intro e id off n q u hk hq hu
      obtain ⟨r', hm, rfl⟩ := thOf_some hq
      have hr' := hr _ hm
      dsimp only at hr'
      obtain ⟨a1, a2, a3, T', cs, ho, a4, a5, a6⟩ := hr'
      have ho' : σ.f id = some (.cells T' cs) := hl id _ ho
      refine rows_of_slN hi a1 a2 a3 ho' a4 a5 (fun j hj v h1 h2 hv hc => ?_) (fun b N' T hio hN => hH id _ b N' T ho' hio hN) hu
      rcases a6 j hj h1 h2 with hp | ⟨e', id', off', n', q', he, hq'⟩
      · rw [sub_pure _ _ hp]
        exact ⟨hv.mono hle, hc⟩
      · have hmem : PV.sub (thOf t) cs[j] ∈ r'.flatten := by
          rw [← a5, List.mem_map]
          refine ⟨cs[j], ?_, rfl⟩
          rw [List.mem_take_iff_getElem]
          refine ⟨j - off, by simp; omega, ?_⟩
          simp [show off + (j - off) = j from by omega]
        have hsz := rows_size (e := e) hmem
        have hs : PV.sub (thOf t) cs[j] = q' := by rw [he]; simp only [PV.sub, hq']
        rw [hs] at hsz ⊢
        rw [he] at hv
        obtain ⟨r2, _, hr2⟩ := thOf_some hq'
        exact ⟨ih e' id' off' n' q' v (by omega) hq' hv, by rw [hr2]; rfl⟩
  exact fun e id off n q u => key (SizeOf.sizeOf q) e id off n q u (Nat.le_refl _)
end
end Sg
namespace Sg
open Go
set_option linter.unusedSectionVars false
set_option linter.unusedVariables false
variable [Glob]
section
variable {P : Program} {r : Option Nat} {N : Nat} {ops : Array Oper}
theorem CR_ann {ann ann' : Nat → Ann} {Q : FS → Prop} : {l : List Nat} → {s : FS} → (∀ j ∈ l, ann' j = ann j) → CR P ops ann l s Q → CR P ops ann' l s Q
  | [], s, _, h => h
  | j :: l, s, he, h => by
    have hj := he j (by simp)
    have ih : ∀ s, CR P ops ann l s Q → CR P ops ann' l s Q := fun s h => CR_ann (fun j hj => he j (by simp [hj])) h
    simp only [CR] at h ⊢
    rw [hj]
    obtain ⟨o, ho, h⟩ := h
    refine ⟨o, ho, ?_⟩
    split
    · rename_i hl
      rw [if_pos hl] at h
      rcases h with ⟨k1, k2, k3⟩ | ⟨k1, fn, args, lst, Ω, m1, m2, m3, m4⟩
      · exact .inl ⟨k1, k2, ih _ k3⟩
      · exact .inr ⟨k1, fn, args, lst, Ω, m1, m2, m3, fun out hout => ⟨(m4 out hout).1, (m4 out hout).2.1, ih _ (m4 out hout).2.2⟩⟩
    · rename_i hl
      rw [if_neg hl] at h
      obtain ⟨out, k1, k2, k3⟩ := h
      exact ⟨out, k1, k2, ih _ k3⟩
def AnI.clear (a : AnI) : AnI := { a with ro := [], wo := [], loud := false }
end
end Sg
namespace Sg
open Go
set_option linter.unusedSectionVars false
set_option linter.unusedVariables false
variable [Glob]
def sbp (y : Nat) (cs : List PV) : PV → PV
  | .ptr id off => if id = y ∧ off = 0 then .vptr cs else .ptr id off
  | p => p
def MS.fzp (s : MS) (y : Nat) (cs : List PV) : MS := { s with env := mapE (sbp y cs) s.env, l := dell y s.l }
section
variable {P : Program} {r : Option Nat} {N : Nat}
end
attribute [go_sem] MS.fzp
omit [Glob] in
@[go_sem] theorem sbp_ptr (y : Nat) (cs : List PV) (id off : Nat) : sbp y cs (.ptr id off) = if id = y ∧ off = 0 then .vptr cs else .ptr id off := rfl
omit [Glob] in
@[go_sem] theorem sbp_int (y : Nat) (cs : List PV) (k : IntKind) (n : Int) : sbp y cs (.int k n) = .int k n := rfl
omit [Glob] in
@[go_sem] theorem sbp_bool (y : Nat) (cs : List PV) (b : Bool) : sbp y cs (.bool b) = .bool b := rfl
omit [Glob] in
@[go_sem] theorem sbp_fn (y : Nat) (cs : List PV) (f : Fn) (a c : List PV) : sbp y cs (.fn f a c) = .fn f a c := rfl
omit [Glob] in
@[go_sem] theorem sbp_nilfn (y : Nat) (cs : List PV) : sbp y cs .nilfn = .nilfn := rfl
omit [Glob] in
@[go_sem] theorem sbp_agg (y : Nat) (cs l : List PV) : sbp y cs (.agg l) = .agg l := rfl
end Sg
namespace Sg
open Go
set_option linter.unusedSectionVars false
variable [Glob]
section
variable {P : Program} {r : Option Nat} {N : Nat}
end
end Sg
namespace Sg
open Go
set_option linter.unusedSectionVars false
set_option linter.unusedVariables false
variable [Glob]
def Ann.more (a : Ann) (R W G : List Nat) : Ann := ⟨a.rd, a.ro ++ R, a.wo ++ W, a.nm ++ G, a.loud⟩
def fixA (c : Nat) (R W G : List Nat) (ann : Nat → Ann) (j : Nat) : Ann := if j = c then (ann j).more R W G else ann j
omit [Glob] in
theorem fixA_ne {c : Nat} {R W G : List Nat} {ann : Nat → Ann} {j : Nat} (h : j ≠ c) : fixA c R W G ann j = ann j := if_neg h
omit [Glob] in
theorem fixA_self {c : Nat} {R W G : List Nat} {ann : Nat → Ann} : fixA c R W G ann c = (ann c).more R W G := if_pos rfl
omit [Glob] in
theorem fixA_loud {c : Nat} {R W G : List Nat} {ann : Nat → Ann} (j : Nat) : (fixA c R W G ann j).loud = (ann j).loud := by
  unfold fixA; split <;> rfl
def farA (a : Ann) (i : Nat) : Prop := i ∉ a.ro ∧ i ∉ a.wo ∧ i ∉ a.nm
omit [Glob] in
theorem apart_fix {da db : Option Nat} {a b : Ann} {R W G : List Nat} (h : Apart da db a b) (hf : ∀ i, i ∈ R ∨ i ∈ W ∨ i ∈ G → farA a i) : Apart da db a (b.more R W G) := by
  refine ⟨h.ab, h.ba, h.d, fun i hi => ?_, fun i hi => ?_, fun i hi => ?_, fun i hi => ?_⟩
  · obtain ⟨h1, h2, h3⟩ := h.wa i hi
    refine ⟨fun hx => ?_, fun hx => ?_, fun hx => ?_⟩
    · rcases List.mem_append.1 hx with hx | hx
      · exact h1 hx
      · exact (hf i (.inl hx)).2.1 hi
    · rcases List.mem_append.1 hx with hx | hx
      · exact h2 hx
      · exact (hf i (.inr (.inl hx))).2.1 hi
    · rcases List.mem_append.1 hx with hx | hx
      · exact h3 hx
      · exact (hf i (.inr (.inr hx))).2.1 hi
  · rcases List.mem_append.1 hi with hi | hi
    · exact h.wb i hi
    · exact ⟨(hf i (.inr (.inl hi))).1, (hf i (.inr (.inl hi))).2.2⟩
  · obtain ⟨h1, h2⟩ := h.na i hi
    refine ⟨fun hx => ?_, fun hx => ?_⟩
    · rcases List.mem_append.1 hx with hx | hx
      · exact h1 hx
      · exact (hf i (.inl hx)).2.2 hi
    · rcases List.mem_append.1 hx with hx | hx
      · exact h2 hx
      · exact (hf i (.inr (.inr hx))).2.2 hi
  · rcases List.mem_append.1 hi with hi | hi
    · exact h.nb i hi
    · exact (hf i (.inr (.inr hi))).1
theorem sched_fix {ops : Array Oper} {ann : Nat → Ann} {ord : List Nat} {pre : Nat → List Nat} {c : Nat} {R W G : List Nat} (h : Sched ops ann ord pre) (hl : (ann c).loud = true) (hG : G.Nodup) (hf : ∀ j ∈ ord, ∀ i, i ∈ R ∨ i ∈ W ∨ i ∈ G → farA (ann j) i) : Sched ops (fixA c R W G ann) ord pre := by
  refine ⟨h.all, h.bound, h.nodup, h.anc, h.edges, ?_, fun a b ha hb hne n hn => ?_, fun a ha => ?_⟩
  · refine List.Pairwise.imp_of_mem (fun {a b} ha hb hp => ?_) h.pairs
    rcases hp with hp | ⟨hp1, hp2⟩
    · exact .inl hp
    · refine .inr ⟨by rw [fixA_loud]; exact hp1, fun oa ob hoa hob => ?_⟩
      have hac : a ≠ c := by rintro rfl; rw [hl] at hp1; cases hp1
      rw [fixA_ne hac]
      by_cases hbc : b = c
      · subst hbc
        rw [fixA_self]
        exact apart_fix (hp2 oa ob hoa hob) (hf a ha)
      · rw [fixA_ne hbc]; exact hp2 oa ob hoa hob
  · by_cases hac : a = c
    · subst hac
      rw [fixA_self] at hn
      rw [fixA_ne (Ne.symm hne)]
      rcases List.mem_append.1 hn with hn | hn
      · exact h.nms a b ha hb hne n hn
      · exact (hf b hb n (.inr (.inr hn))).2.2
    · rw [fixA_ne hac] at hn
      by_cases hbc : b = c
      · subst hbc
        rw [fixA_self]
        intro hx
        rcases List.mem_append.1 hx with hx | hx
        · exact h.nms a b ha hb hne n hn hx
        · exact (hf a ha n (.inr (.inr hx))).2.2 hn
      · rw [fixA_ne hbc]; exact h.nms a b ha hb hne n hn
  · by_cases hac : a = c
    · subst hac
      rw [fixA_self]
      exact List.nodup_append.2 ⟨h.nmd a ha, hG, fun x hx y hy e => by subst e; exact (hf a ha x (.inr (.inr hy))).2.2 hx⟩
    · rw [fixA_ne hac]; exact h.nmd a ha
section
variable {P : Program} {r : Option Nat} {N : Nat} {ops : Array Oper}
theorem CR_append {ann : Nat → Ann} {Q : FS → Prop} : {l1 l2 : List Nat} → {s : FS} → CR P ops ann l1 s (fun s' => CR P ops ann l2 s' Q) → CR P ops ann (l1 ++ l2) s Q
  | [], l2, s, h => h
  | j :: l1, l2, s, h => by
    simp only [List.cons_append, CR] at h ⊢
    obtain ⟨o, ho, h⟩ := h
    refine ⟨o, ho, ?_⟩
    split
    · rename_i hl
      rw [if_pos hl] at h
      rcases h with ⟨k1, k2, k3⟩ | ⟨k1, fn, args, lst, Ω, m1, m2, m3, m4⟩
      · exact .inl ⟨k1, k2, CR_append k3⟩
      · exact .inr ⟨k1, fn, args, lst, Ω, m1, m2, m3, fun out hout => ⟨(m4 out hout).1, (m4 out hout).2.1, CR_append (m4 out hout).2.2⟩⟩
    · rename_i hl
      rw [if_neg hl] at h
      obtain ⟨out, k1, k2, k3⟩ := h
      exact ⟨out, k1, k2, CR_append k3⟩
def MSub (s' s : MS) : Prop := s'.env = s.env ∧ (∀ i x, s'.f i = some x → s.f i = some x) ∧ s'.M = s.M ∧ s'.df = s.df
omit [Glob] in
theorem WF.sub {fs : FS} {s s' : MS} (h : WF fs s) (hs : MSub s' s) : WF fs s' := ⟨fun t p e => h.e t p (by rw [← hs.1]; exact e), fun i o e => h.f i o (hs.2.1 i o e), fun i hi => h.fr i (by rw [← hs.2.2.1]; exact hi), by rw [hs.2.2.2]; exact h.df⟩
def kG2 (P : Program) (ops : Array Oper) (tbl : List Nat) (R W G : List Nat) (s : MS) (K : MS → Prop) (o : Oper) (ai : AnI) : Prop :=
  (rdOk s.env ai.rd ∧ roOk s ((ai.ann tbl).ro ++ R)) ∧
    loudA P ops o ((ai.ann tbl).more R W G) (keepE s.env ai.rd) (resF s.f ((ai.ann tbl).ro ++ R)) fun out =>
      ((∀ i x, lk i out.u = some x → i ∈ (ai.ann tbl).wo ++ W) ∧ (∀ i x, lk i out.nw = some x → i ∈ (ai.ann tbl).nm ++ G)) ∧ ∃ s', MSub s' (s.out o.dst out s.M) ∧ okDel s.B s.f0 out.u ∧ K s'
def kG (P : Program) (ops : Array Oper) (tbl : List Nat) (an : Array AnI) (c : Nat) (R W G : List Nat) (s : MS) (K : MS → Prop) (o : Oper) : Prop := bindI an[c]? (kG2 P ops tbl R W G s K o)
def stepG (P : Program) (ops : Array Oper) (tbl : List Nat) (an : Array AnI) (c : Nat) (R W G : List Nat) (s : MS) (K : MS → Prop) : Prop := bindD ops[c]? (kG P ops tbl an c R W G s K)
def contG (P : Program) (ops : Array Oper) (tbl : List Nat) (an : Array AnI) (l : List Nat) (K : MS → Prop) (s : MS) : Prop := runD P ops tbl an l s K
theorem stepG_CR {tbl : List Nat} {an : Array AnI} {c : Nat} {R W G : List Nat} {K : MS → Prop} {s : MS} {fs : FS} {l2 : List Nat} (hl : (annOf tbl an c).loud = true) (hnm : ∀ n ∈ (annOf tbl an c).nm ++ G, n < s.M) (h : stepG P ops tbl an c R W G s K) (hw : WF fs s) {Q : FS → Prop} (hQ : ∀ s1, s1.M = s.M → K s1 → ∀ fs1, WF fs1 s1 → CR P ops (fixA c R W G (annOf tbl an)) l2 fs1 Q) : CR P ops (fixA c R W G (annOf tbl an)) (c :: l2) fs Q := by
  obtain ⟨o, ho, ai, hai, ⟨h1, h2⟩, h⟩ := h
  have hann := annOf_some (tbl := tbl) hai
  refine ⟨o, ho, ?_⟩
  rw [fixA_self, hann]
  rw [hann] at hl hnm
  rw [if_pos (show ((ai.ann tbl).more R W G).loud = true from hl)]
  show loudA P ops o ((ai.ann tbl).more R W G) (keepF fs.e (ai.ann tbl).rd) (resF fs.f ((ai.ann tbl).ro ++ R)) _
  rw [keepE_eq (rd := (ai.ann tbl).rd) hw.e h1, resF_eq hw.f h2]
  have next : ∀ out, (((∀ i x, lk i out.u = some x → i ∈ (ai.ann tbl).wo ++ W) ∧ (∀ i x, lk i out.nw = some x → i ∈ (ai.ann tbl).nm ++ G)) ∧ ∃ s', MSub s' (s.out o.dst out s.M) ∧ okDel s.B s.f0 out.u ∧ K s') → CR P ops (fixA c R W G (annOf tbl an)) l2 (fs.upd o.dst out) Q := by
    rintro out ⟨a1, s', hs', a2, a3⟩
    refine hQ s' hs'.2.2.1 a3 _ (WF.sub (WF_upd hw a2 fun i hi => ?_) hs')
    cases hl' : lk i out.nw with
    | none => rfl
    | some x =>
      have := hnm i (a1.2 i x hl')
      omega
  rcases h with ⟨k1, k2⟩ | ⟨k1, fn, args, lst, Ω, m1, m2, m3, m4⟩
  · exact .inl ⟨k1, k2.1, next _ k2⟩
  · exact .inr ⟨k1, fn, args, lst, Ω, m1, m2, m3, fun out hout => ⟨(m4 out hout).1, (m4 out hout).2.1, next _ (m4 out hout).2⟩⟩
theorem kG2_fn {tbl : List Nat} {R W G : List Nat} {s : MS} {K : MS → Prop} {o : Oper} {ai : AnI} {x : Operand} {as : Array Operand} {ts : Array TypeId} {fn : FuncId} {first cap ps : List PV} {T : List (Nat × AObj)} {Ω : List Nat → COut → Prop}
    (hc : CallF P fn (first ++ ps ++ cap) T G.length Ω) (henter : ∀ args w, (callFunc fn args).run P w = .ok (.enter fn args) w) (hop : o.op = .call { callee := .value x, args := as, argTypes := ts }) (hg : o.guard = none) (hai : ai.ro = [] ∧ ai.wo = [] ∧ ai.nm = [])
    (hrd : rdOk s.env ai.rd) (hx : ev (keepE s.env ai.rd) x = some (.fn (.func fn) first cap)) (ha : evs (keepE s.env ai.rd) as.toList = some ps)
    (hT : ∀ i ob, lk i T = some ob → s.f i = some ob ∧ i ∈ R) (hR : ∀ i ∈ R, (s.f i).isSome = true)
    (hk : ∀ out, Ω G out → out.pan = none ∧ (∀ i x, lk i out.u = some x → i ∈ W) ∧ (∀ i x, lk i out.nw = some x → i ∈ G) ∧ okDel s.B s.f0 out.u ∧ ∃ s', MSub s' (s.out o.dst ⟨packA out.rs, out.u, out.nw⟩ s.M) ∧ K s') : kG2 P ops tbl R W G s K o ai := by
  obtain ⟨h1, h2, h3⟩ := hai
  have e1 : (ai.ann tbl).ro = [] := by simp [AnI.ann, h1]
  have e2 : (ai.ann tbl).wo = [] := by simp [AnI.ann, h2]
  have e3 : (ai.ann tbl).nm = [] := by simp [AnI.ann, h3]
  have roR : ∀ l : List Nat, (∀ i ∈ l, (s.f i).isSome = true) → roOk s l := by
    intro l
    induction l with
    | nil => intro _; trivial
    | cons i l ih => intro h; exact ⟨h i (by simp), ih fun j hj => h j (by simp [hj])⟩
  refine ⟨⟨hrd, by rw [e1]; exact roR _ hR⟩, ?_⟩
  rw [loudA_eq, hg]
  refine .inl ⟨rfl, ?_⟩
  refine loud_fn hc henter hop hx ha (fun i ob h => ?_) (by simp [Ann.more, e3]) fun out hout => ?_
  · obtain ⟨a, b⟩ := hT i ob h
    simp only [resF]
    rw [if_pos (by rw [e1]; exact b)]; exact a
  · have hout' : Ω G out := by simpa [Ann.more, e3] using hout
    obtain ⟨k1, k2, k3, k4, s', k5, k6⟩ := hk out hout'
    exact ⟨k1, ⟨fun i x h => by rw [e2]; exact k2 i x h, fun i x h => by rw [e3]; exact k3 i x h⟩, s', k5, k4, k6⟩
theorem runD_M {tbl : List Nat} {an : Array AnI} {K : MS → Prop} : ∀ (l : List Nat) (s : MS), runD P ops tbl an l s K → runD P ops tbl an l s (fun s' => s'.M = s.M ∧ K s')
  | [], s, h => ⟨rfl, h⟩
  | j :: l, s, h => by
    obtain ⟨o, ho, ai, hai, h0, h⟩ := h
    refine ⟨o, ho, ai, hai, h0, ?_⟩
    split
    · rename_i hl
      rw [if_pos hl] at h
      rcases h with ⟨k1, k2, k3, k4⟩ | ⟨k1, fn, args, lst, Ω, m1, m2, m3, m4⟩
      · exact .inl ⟨k1, k2, k3, runD_M l _ k4⟩
      · exact .inr ⟨k1, fn, args, lst, Ω, m1, m2, m3, fun out hout => ⟨(m4 out hout).1, (m4 out hout).2.1, (m4 out hout).2.2.1, runD_M l _ (m4 out hout).2.2.2⟩⟩
    · rename_i hl
      rw [if_neg hl] at h
      obtain ⟨out, k1, k2, k3, k4⟩ := h
      exact ⟨out, k1, k2, k3, runD_M l _ k4⟩
theorem runD_CR' {tbl : List Nat} {an : Array AnI} {ann : Nat → Ann} {l : List Nat} (he : ∀ j ∈ l, ann j = annOf tbl an j) {s : MS} {fs : FS} {K : MS → Prop} (hnm : ∀ j ∈ l, ∀ n ∈ (annOf tbl an j).nm, n < s.M) (h : runD P ops tbl an l s K) (hw : WF fs s) : CR P ops ann l fs (fun fs' => ∃ s', WF fs' s' ∧ s'.M = s.M ∧ K s') :=
  CR_ann he (runD_CR l s fs hnm (runD_M l s h) hw)
theorem wpM_drawnG (hm : P.follows .mixedOrders = true) (k p c : Nat) (R W G : List Nat) (tbl : List Nat) (an : Array AnI) (l1 l2 : List Nat) (pre : List (List Nat)) {id : Nat} {s : MS} {Q : ExitA → MS → Prop} (m : Nat) (hlen : tbl.length = m) (htbl : tbl.Nodup)
    (hc : (checkD N m ops an.toList (l1 ++ c :: l2) pre && an.toList.all (fun a => a.nm.all (fun x => decide (p ≤ x) && decide (x < m)))) = true) (hcl : (an.getD c default).loud = true) (hnm : ∀ n ∈ tbl.drop p, s.M ≤ n ∧ n < s.M + k)
    (hG : G.Nodup) (hGn : ∀ n ∈ G, s.M ≤ n ∧ n < s.M + k) (hfar : ∀ i, i ∈ R ∨ i ∈ W ∨ i ∈ G → i ∉ tbl)
    (h' : ∀ (O : Array Oper) (A : Array AnI) (K : MS → Prop), O = ops → A = an → (∀ s, Q .normal s → K s) → runD P O tbl A l1 { s with M := s.M + k } fun s1 => stepG P O tbl A c R W G s1 (contG P O tbl A l2 K)) : wpM P r N (.region id ops true) s Q := by
  have h := h' ops an _ rfl rfl (fun s h => h)
  subst hlen
  simp only [Bool.and_eq_true] at hc
  obtain ⟨hs, hd⟩ := checkD_spec htbl hc.1
  have hann : (fun j => (an.toList.getD j default).ann tbl) = annOf tbl an := by
    funext j
    simp [annOf, List.getD, Array.getD_eq_getD_getElem?]
  rw [hann] at hs
  have hin : ∀ j, j ∈ l1 ++ c :: l2 → inB tbl.length (an.getD j default) = true := by
    intro j hj
    have h7 := hc.1
    simp only [checkD, Bool.and_eq_true] at h7
    have := List.all_eq_true.1 h7.2 j hj
    simpa [List.getD, Array.getD_eq_getD_getElem?] using this
  have hsub : ∀ j ∈ l1 ++ c :: l2, ∀ i, i ∈ (annOf tbl an j).ro ∨ i ∈ (annOf tbl an j).wo ∨ i ∈ (annOf tbl an j).nm → i ∈ tbl := by
    intro j hj i hi
    have hb := hin j hj
    simp only [inB, Bool.and_eq_true, List.all_eq_true, decide_eq_true_eq] at hb
    have key : ∀ l : List Nat, (∀ x ∈ l, x < tbl.length) → i ∈ l.map (tid tbl) → i ∈ tbl := by
      intro l hl hi
      obtain ⟨x, hx, rfl⟩ := List.mem_map.1 hi
      have := hl x hx
      simp only [tid, List.getD, List.getElem?_eq_getElem this, Option.getD_some]
      exact List.getElem_mem this
    simp only [annOf, AnI.ann] at hi
    rcases hi with hi | hi | hi
    · exact key _ hb.1.1 hi
    · exact key _ hb.1.2 hi
    · exact key _ hb.2 hi
  have hfix : Sched ops (fixA c R W G (annOf tbl an)) (l1 ++ c :: l2) (fun j => pre.getD j []) := by
    refine sched_fix hs hcl hG fun j hj i hi => ?_
    have := hfar i hi
    exact ⟨fun hx => this (hsub j hj i (.inl hx)), fun hx => this (hsub j hj i (.inr (.inl hx))), fun hx => this (hsub j hj i (.inr (.inr hx)))⟩
  have hnm' := tblOk_spec hnm hc.2
  have hnd := hs.nodup
  have hc1 : c ∉ l1 := fun hx => (List.nodup_append.1 hnd).2.2 c hx c (by simp) rfl
  have hc2 : c ∉ l2 := (List.nodup_cons.1 (List.nodup_append.1 hnd).2.1).1
  have hnmf : ∀ j ∈ l1 ++ c :: l2, ∀ n ∈ (fixA c R W G (annOf tbl an) j).nm, s.M ≤ n ∧ n < s.M + k := by
    intro j hj n hn
    by_cases hjc : j = c
    · subst hjc
      rw [fixA_self] at hn
      rcases List.mem_append.1 hn with hn | hn
      · exact hnm' j n hn
      · exact hGn n hn
    · rw [fixA_ne hjc] at hn; exact hnm' j n hn
  refine wpA_drawn hm hfix hd ⟨s.M, fun i hi => hi⟩ (fun j hj n hn => (hnmf j hj n hn).1) ?_
  have hw : WF s.st.fs { s with M := s.M + k } := ⟨fun t p e => e, fun i o e => e, fun i hi => Nat.le_trans (Nat.le_add_right _ _) hi, rfl⟩
  refine CR_append ?_
  have r1 := runD_CR' (P := P) (ops := ops) (ann := fixA c R W G (annOf tbl an)) (l := l1) (fun j hj => fixA_ne (fun e => hc1 (e ▸ hj))) (fun j hj n hn => (hnm' j n hn).2) h hw
  refine wpM_drawn.CR_mono r1 ?_
  rintro fs1 ⟨s1, w1, hM1, hk1⟩
  have hM1' : s1.M = s.M + k := hM1
  have r2 : ∀ (s2 : MS), s2.M = s1.M → runD P ops tbl an l2 s2 (fun s => Q .normal s) → ∀ fs2, WF fs2 s2 → CR P ops (fixA c R W G (annOf tbl an)) l2 fs2 (fun fs => ∀ st', st'.fs = fs → Wk st' (Q .normal)) := by
    intro s2 hM2 hr fs2 hw2
    have r3 := runD_CR' (P := P) (ops := ops) (ann := fixA c R W G (annOf tbl an)) (l := l2) (fun j hj => fixA_ne (fun e => hc2 (e ▸ hj))) (fun j hj n hn => by rw [hM2, hM1']; exact (hnm' j n hn).2) hr hw2
    refine wpM_drawn.CR_mono r3 ?_
    rintro fs ⟨s', w', _, hk⟩ st' rfl
    exact ⟨s', ⟨fun t p e => .inr (w'.e t p e), w'.f, w'.fr, w'.df⟩, hk⟩
  exact stepG_CR hcl (fun n hn => by
    rw [hM1']
    have := hnmf c (by simp) n (by rw [fixA_self]; exact hn)
    exact this.2) hk1 w1 (fun s2 hM2 hk fs2 hw2 => r2 s2 hM2 hk fs2 hw2)
variable {ops : List Oper}
theorem drG_ (hm : P.follows .mixedOrders = true) (ks : List Nat) (k p c : Nat) (R W G : List Nat) (tbl : List Nat) (an : List AnI) (l1 l2 : List Nat) (pre : List (List Nat)) {id : Nat} {s : MS} {Q : ExitA → MS → Prop} (m : Nat)
    (htbl : tbl.Nodup) (hnm : ∀ n ∈ tbl.drop p, s.M ≤ n ∧ n < s.M + k) (hG : G.Nodup) (hGn : ∀ n ∈ G, s.M ≤ n ∧ n < s.M + k) (hfar : ∀ i, i ∈ R ∨ i ∈ W ∨ i ∈ G → i ∉ tbl)
    (h' : ∀ (O : Array Oper) (A : Array AnI) (K : MS → Prop), AtL O 0 ops → AtL A 0 an → (∀ s, keepQ ks Q .normal s → K s) → runD P O tbl A l1 { s with M := s.M + k } fun s1 => stepG P O tbl A c R W G s1 (contG P O tbl A l2 K))
    (hc : (checkD N m ops.toArray an (l1 ++ c :: l2) pre && an.all (fun a => a.nm.all (fun x => decide (p ≤ x) && decide (x < m)))) = true := by decide +kernel) (hcl : (an.getD c default).loud = true := by exact rfl) (hlen : tbl.length = m := by exact rfl) :
    wpM P r N (.region id ops.toArray true) s Q :=
  wpM_keep ks (wpM_drawnG hm k p c R W G tbl an.toArray l1 l2 pre m hlen htbl (by simpa using hc) (by simpa using hcl) hnm hG hGn hfar fun O A K hO hA hK => h' O A K (hO ▸ atL_self ops) (hA ▸ atL_self an) hK)
@[go_sem] theorem stepG_eq {O : Array Oper} {tbl : List Nat} {A : Array AnI} {c : Nat} {R W G : List Nat} {s : MS} {K : MS → Prop} : stepG P O tbl A c R W G s K = bindD O[c]? (kG P O tbl A c R W G s K) := rfl
@[go_sem] theorem kG_app {O : Array Oper} {tbl : List Nat} {A : Array AnI} {c : Nat} {R W G : List Nat} {s : MS} {K : MS → Prop} {o : Oper} : kG P O tbl A c R W G s K o = bindI A[c]? (kG2 P O tbl R W G s K o) := rfl
end
end Sg
namespace Sg
open Go
set_option linter.unusedSectionVars false
set_option linter.unusedVariables false
variable [Glob]
def ksL (l : List (Nat × AObj)) : List Nat := l.map Prod.fst
def dropU (l : List (Nat × AObj)) : List (Nat × Option AObj) := l.map fun p => (p.1, none)
omit [Glob] in
theorem ksL_app (a b : List (Nat × AObj)) : ksL (a ++ b) = ksL a ++ ksL b := by simp [ksL]
omit [Glob] in
theorem ksL_mem {l : List (Nat × AObj)} {p : Nat × AObj} (h : p ∈ l) : p.1 ∈ ksL l := List.mem_map_of_mem h
omit [Glob] in
theorem lk_in : {l : List (Nat × AObj)} → {i : Nat} → {o : AObj} → lk i l = some o → (i, o) ∈ l
  | [], i, o, h => by simp [lk] at h
  | (k, v) :: r, i, o, h => by
    simp only [lk] at h
    split at h
    · rename_i e; subst e; injection h with h; subst h; simp
    · exact List.mem_cons_of_mem _ (lk_in h)
omit [Glob] in
theorem lk_out : {l : List (Nat × AObj)} → {i : Nat} → i ∉ ksL l → lk i l = none
  | [], i, _ => rfl
  | (k, v) :: r, i, h => by
    simp only [ksL, List.map_cons, List.mem_cons, not_or] at h
    simp only [lk]
    rw [if_neg (fun e => h.1 e.symm)]
    exact lk_out h.2
omit [Glob] in
theorem lk_nd : {l : List (Nat × AObj)} → (ksL l).Nodup → {p : Nat × AObj} → p ∈ l → lk p.1 l = some p.2
  | [], _, p, h => by simp at h
  | (k, v) :: r, hnd, p, h => by
    simp only [ksL, List.map_cons, List.nodup_cons] at hnd
    simp only [lk]
    rcases List.mem_cons.1 h with h' | h'
    · subst h'; rw [if_pos rfl]
    · rw [if_neg]
      · exact lk_nd hnd.2 h'
      · intro e; rw [e] at hnd; exact hnd.1 (ksL_mem h')
omit [Glob] in
theorem subL_of {l : List (Nat × AObj)} (hnd : (ksL l).Nodup) : {l' : List (Nat × AObj)} → (∀ p ∈ l', p ∈ l) → subL l l'
  | [], _ => trivial
  | (i, o) :: r, h => ⟨lk_nd hnd (p := (i, o)) (h _ (by simp)), subL_of hnd fun p hp => h p (by simp [hp])⟩
omit [Glob] in
theorem lk_some_of {l : List (Nat × AObj)} {i : Nat} (h : i ∈ ksL l) : (lk i l).isSome = true := by
  induction l with
  | nil => simp [ksL] at h
  | cons x r ih =>
    obtain ⟨k, v⟩ := x
    simp only [lk]
    split
    · rfl
    · rename_i e
      simp only [ksL, List.map_cons, List.mem_cons] at h
      exact ih (h.resolve_left fun e' => e e'.symm)
omit [Glob] in
theorem keepB_of {B : Nat} {f0 : Nat → Option AObj} {l' : List (Nat × AObj)} : {l : List (Nat × AObj)} → (∀ p ∈ l, B ≤ p.1 ∨ f0 p.1 = none ∨ p.1 ∈ ksL l') → keepB B f0 l' l
  | [], _ => trivial
  | (k, v) :: r, h => by
    refine ⟨?_, keepB_of fun p hp => h p (by simp [hp])⟩
    rcases h (k, v) (by simp) with h | h | h
    · exact .inl h
    · exact .inr (.inr h)
    · exact .inr (.inl (lk_some_of h))
omit [Glob] in
theorem keysIn_of {B : Nat} {l : List (Nat × AObj)} : {r : List (Nat × AObj)} → (∀ p ∈ r, B ≤ p.1 ∨ p.1 ∈ ksL l) → keysIn B l r
  | [], _ => trivial
  | (k, v) :: r, h => by
    refine ⟨?_, keysIn_of fun p hp => h p (by simp [hp])⟩
    rcases h (k, v) (by simp) with h | h
    · exact .inl h
    · exact .inr (lk_some_of h)
omit [Glob] in
theorem lk_dropU_in : {T : List (Nat × AObj)} → {i : Nat} → i ∈ ksL T → lk i (dropU T) = some none
  | [], i, h => by simp [ksL] at h
  | (k, v) :: r, i, h => by
    show (if k = i then some none else lk i (dropU r)) = some none
    by_cases e : k = i
    · rw [if_pos e]
    · rw [if_neg e]
      refine lk_dropU_in ?_
      simp only [ksL, List.map_cons, List.mem_cons] at h
      exact h.resolve_left fun e' => e e'.symm
omit [Glob] in
theorem lk_dropU_out : {T : List (Nat × AObj)} → {i : Nat} → i ∉ ksL T → lk i (dropU T) = none
  | [], i, h => rfl
  | (k, v) :: r, i, h => by
    simp only [ksL, List.map_cons, List.mem_cons, not_or] at h
    show (if k = i then some none else lk i (dropU r)) = none
    rw [if_neg (fun e => h.1 e.symm)]
    exact lk_dropU_out h.2
omit [Glob] in
theorem lk_dropU {T : List (Nat × AObj)} {i : Nat} : lk i (dropU T) = if i ∈ ksL T then some none else none := by
  split
  · exact lk_dropU_in (by assumption)
  · exact lk_dropU_out (by assumption)
omit [Glob] in
theorem okDel_dropU {B : Nat} {f0 : Nat → Option AObj} : {T : List (Nat × AObj)} → (∀ p ∈ T, B ≤ p.1 ∨ f0 p.1 = none) → okDel B f0 (dropU T)
  | [], _ => trivial
  | x :: r, h => ⟨h x (by simp), okDel_dropU fun p hp => h p (by simp [hp])⟩
omit [Glob] in
theorem updOk_dropU {l : List (Nat × AObj)} : {T : List (Nat × AObj)} → (∀ p ∈ T, p.1 ∈ ksL l) → updOk l (dropU T)
  | [], _ => trivial
  | x :: r, h => ⟨lk_some_of (h x (by simp)), updOk_dropU fun p hp => h p (by simp [hp])⟩
omit [Glob] in
theorem oldOk_dropU {s : MS} {p : Nat → Prop} {T : List (Nat × AObj)} : {l : List (Nat × AObj)} → (∀ q ∈ l, q.1 ∈ ksL T) → oldOk0 s (dropU T) p l
  | [], _ => trivial
  | (i, o) :: r, h => by
    refine ⟨?_, oldOk_dropU fun q hq => h q (by simp [hq])⟩
    rw [lk_dropU, if_pos (h (i, o) (by simp))]
    trivial
theorem f_drop {s : MS} {d : Option Nat} {v : PV} {M : Nat} {T L : List (Nat × AObj)} (hdel : ∀ p ∈ T, s.B ≤ p.1 ∨ s.f0 p.1 = none) (hnd : (ksL s.l).Nodup) (h1 : ∀ p ∈ L, p ∈ s.l ∧ p.1 ∉ ksL T) (h2 : ∀ p ∈ s.l, p.1 ∈ ksL L ∨ p.1 ∈ ksL T ∨ s.B ≤ p.1 ∨ s.f0 p.1 = none) (e : Env) (M' : Nat) :
    ∀ i x, MS.f { s with env := e, l := L, M := M' } i = some x → (s.out d ⟨v, dropU T, []⟩ M).f i = some x := by
  intro i x h
  have hout : (s.out d ⟨v, dropU T, []⟩ M).f i = (match lk i (dropU T) with | some o => o | none => s.f i) := by
    exact lk_updl (s := s) (i := i) (okDel_dropU hdel)
  rw [hout, lk_dropU]
  simp only [MS.f] at h
  cases hL : lk i L with
  | some o =>
    rw [hL] at h
    injection h with h; subst h
    have hm := lk_in hL
    obtain ⟨a, b⟩ := h1 _ hm
    rw [if_neg b]
    simp only [MS.f, lk_nd hnd a]
  | none =>
    rw [hL] at h
    simp only at h
    split at h
    · rename_i hiB
      have hiT : i ∉ ksL T := by
        intro hiT
        obtain ⟨p, hp, rfl⟩ := List.mem_map.1 hiT
        rcases hdel p hp with h' | h'
        · omega
        · rw [h'] at h; cases h
      rw [if_neg hiT]
      simp only [MS.f]
      cases hs : lk i s.l with
      | some o =>
        exfalso
        rcases h2 _ (lk_in hs) with h' | h' | h' | h'
        · have := lk_some_of h'; rw [hL] at this; cases this
        · exact hiT h'
        · have h' : s.B ≤ i := h'; omega
        · have h' : s.f0 i = none := h'; rw [h'] at h; cases h
      | none => simp only [if_pos hiB]; exact h
    · cases h
theorem f_new {s : MS} {d : Option Nat} {v : PV} {M : Nat} {N : List (Nat × AObj)} (hnd : (ksL s.l).Nodup) (hN : ∀ p ∈ N, p.1 ∉ ksL s.l ∧ s.B ≤ p.1) (e : Env) (M' : Nat) :
    ∀ i x, MS.f { s with env := e, l := s.l ++ N, M := M' } i = some x → (s.out d ⟨v, [], N⟩ M).f i = some x := by
  intro i x h
  simp only [MS.f, MS.out, updl, lk_append] at h ⊢
  cases hs : lk i s.l with
  | some o =>
    rw [hs] at h
    have hm := lk_in hs
    have : lk i N = none := lk_out fun hi => by
      obtain ⟨p, hp, e⟩ := List.mem_map.1 hi
      have h' := (hN p hp).1
      rw [e] at h'
      exact h' (ksL_mem hm)
    rw [this]; exact h
  | none =>
    rw [hs] at h
    simp only at h
    cases hn : lk i N with
    | some o => rw [hn] at h; exact h
    | none => rw [hn] at h; exact h
section
variable {P : Program} {r : Option Nat} {N : Nat}
theorem kG2_drop {ops : Array Oper} {tbl : List Nat} {s : MS} {K : MS → Prop} {o : Oper} {ai : AnI} {x : Operand} {as : Array Operand} {ts : Array TypeId} {fn : FuncId} {first cap ps rs : List PV} {T : List (Nat × AObj)} (L : List (Nat × AObj))
    (hc : CallF P fn (first ++ ps ++ cap) T 0 (fun _ o => o = { rs := rs, u := dropU T })) (henter : ∀ args w, (callFunc fn args).run P w = .ok (.enter fn args) w) (hop : o.op = .call { callee := .value x, args := as, argTypes := ts }) (hg : o.guard = none) (hai : ai.ro = [] ∧ ai.wo = [] ∧ ai.nm = [])
    (hrd : rdOk s.env ai.rd) (hx : ev (keepE s.env ai.rd) x = some (.fn (.func fn) first cap)) (ha : evs (keepE s.env ai.rd) as.toList = some ps)
    (hnd : (ksL s.l).Nodup) (hT : ∀ p ∈ T, p ∈ s.l) (hdel : ∀ p ∈ T, s.B ≤ p.1 ∨ s.f0 p.1 = none) (h1 : ∀ p ∈ L, p ∈ s.l ∧ p.1 ∉ ksL T) (h2 : ∀ p ∈ s.l, p.1 ∈ ksL L ∨ p.1 ∈ ksL T ∨ s.B ≤ p.1 ∨ s.f0 p.1 = none)
    (hk : K { s with env := put s.env o.dst (packA rs), l := L }) : kG2 P ops tbl (ksL T) (ksL T) [] s K o ai := by
  refine kG2_fn (G := []) hc henter hop hg hai hrd hx ha (fun i ob h => ?_) (fun i hi => ?_) ?_
  · have hm := lk_in h
    refine ⟨?_, ksL_mem hm⟩
    simp only [MS.f, lk_nd hnd (hT _ hm)]
  · obtain ⟨p, hp, rfl⟩ := List.mem_map.1 hi
    simp only [MS.f, lk_nd hnd (hT _ hp)]; rfl
  · rintro out rfl
    refine ⟨rfl, fun i x h => ?_, fun i x h => by simp [lk] at h, okDel_dropU hdel, { s with env := put s.env o.dst (packA rs), l := L }, ⟨rfl, f_drop (M := s.M) hdel hnd h1 h2 _ _, rfl, rfl⟩, hk⟩
    rw [lk_dropU] at h
    split at h
    · assumption
    · cases h
theorem kG2_new {ops : Array Oper} {tbl : List Nat} {G : List Nat} {s : MS} {K : MS → Prop} {o : Oper} {ai : AnI} {x : Operand} {as : Array Operand} {ts : Array TypeId} {fn : FuncId} {first cap ps : List PV} {Ω : List Nat → COut → Prop}
    (hc : CallF P fn (first ++ ps ++ cap) [] G.length Ω) (henter : ∀ args w, (callFunc fn args).run P w = .ok (.enter fn args) w) (hop : o.op = .call { callee := .value x, args := as, argTypes := ts }) (hg : o.guard = none) (hai : ai.ro = [] ∧ ai.wo = [] ∧ ai.nm = [])
    (hrd : rdOk s.env ai.rd) (hx : ev (keepE s.env ai.rd) x = some (.fn (.func fn) first cap)) (ha : evs (keepE s.env ai.rd) as.toList = some ps)
    (hnd : (ksL s.l).Nodup) (hG : ∀ g ∈ G, g ∉ ksL s.l ∧ s.B ≤ g)
    (hk : ∀ out, Ω G out → ∃ rs Nw, out = { rs := rs, nw := Nw } ∧ (∀ p ∈ Nw, p.1 ∈ G) ∧ K { s with env := put s.env o.dst (packA rs), l := s.l ++ Nw }) : kG2 P ops tbl [] [] G s K o ai := by
  refine kG2_fn hc henter hop hg hai hrd hx ha (fun i ob h => by simp [lk] at h) (fun i hi => by simp at hi) fun out hout => ?_
  obtain ⟨rs, Nw, rfl, hN, hK⟩ := hk out hout
  exact ⟨rfl, fun i x h => by simp [lk] at h, fun i x h => hN _ (lk_in h), trivial, { s with env := put s.env o.dst (packA rs), l := s.l ++ Nw }, ⟨rfl, f_new (M := s.M) hnd (fun p hp => hG _ (hN p hp)) _ _, rfl, rfl⟩, hK⟩
theorem OpM_K {o : Oper} {s : MS} {K : MS → Prop} {X : PV → MS → Prop} (h : OpM P r N o s (fun s => Wk s.st K) X) : OpM P r N o s K X :=
  OpA.mono h (fun st ⟨s', a, s2, b, c⟩ => ⟨s2, a.trans b, c⟩) fun _ _ h => h
omit [Glob] in
theorem weak_of {s s' : MS} (he : s'.env = s.env) (hf : ∀ i o, s'.f i = some o → s.f i = some o) (hM : s.M ≤ s'.M) (hd : s'.df = s.df) : Weak s.st s'.st := ⟨fun t p e => .inr (by have e : get s'.env t = some p := e; rw [he] at e; exact e), hf, fun i hi => Nat.le_trans hM hi, hd⟩
theorem call_drop {o : Oper} {s : MS} {K : MS → Prop} {X : PV → MS → Prop} {x : Operand} {as : Array Operand} {ts : Array TypeId} {f : FuncId} {first cap ps rs : List PV} {T : List (Nat × AObj)} (L : List (Nat × AObj))
    (hc : CallF P f (first ++ ps ++ cap) T 0 (fun _ o => o = { rs := rs, u := dropU T })) (henter : ∀ args w, (callFunc f args).run P w = .ok (.enter f args) w) (ho : o.op = .call { callee := .value x, args := as, argTypes := ts }) (hd : dstOk N o.dst = true) (hx : ev s.env x = some (.fn (.func f) first cap)) (ha : evs s.env as.toList = some ps)
    (hnd : (ksL s.l).Nodup) (hT : ∀ p ∈ T, p ∈ s.l) (hdel : ∀ p ∈ T, s.B ≤ p.1 ∨ s.f0 p.1 = none) (h1 : ∀ p ∈ L, p ∈ s.l ∧ p.1 ∉ ksL T) (h2 : ∀ p ∈ s.l, p.1 ∈ ksL L ∨ p.1 ∈ ksL T ∨ s.B ≤ p.1 ∨ s.f0 p.1 = none)
    (hk : K { s with env := put s.env o.dst (packA rs), l := L }) : OpM P r N o s K X := by
  refine OpM_K (OpM_call ho hd hx ha henter hc (fun i ob h => ?_) ?_)
  · simp only [MS.f, lk_nd hnd (hT _ (lk_in h))]
  · rintro out rfl
    refine ⟨okDel_dropU hdel, ⟨{ s with env := put s.env o.dst (packA rs), l := L }, weak_of rfl (f_drop (M := s.M + 0) hdel hnd h1 h2 _ _) (Nat.le_refl _) rfl, hk⟩⟩
theorem call_new {o : Oper} {s : MS} {K : MS → Prop} {X : PV → MS → Prop} {x : Operand} {as : Array Operand} {ts : Array TypeId} {f : FuncId} {first cap ps : List PV} {k : Nat} {Ω : List Nat → COut → Prop}
    (hc : CallF P f (first ++ ps ++ cap) [] k Ω) (henter : ∀ args w, (callFunc f args).run P w = .ok (.enter f args) w) (ho : o.op = .call { callee := .value x, args := as, argTypes := ts }) (hd : dstOk N o.dst = true) (hx : ev s.env x = some (.fn (.func f) first cap)) (ha : evs s.env as.toList = some ps)
    (hnd : (ksL s.l).Nodup) (hlt : ∀ p ∈ s.l, p.1 < s.M) (hBM : s.B ≤ s.M)
    (hk : ∀ out, Ω (List.range' s.M k) out → ∃ rs Nw, out = { rs := rs, nw := Nw } ∧ (∀ p ∈ Nw, p.1 ∈ List.range' s.M k) ∧ K { s with env := put s.env o.dst (packA rs), l := s.l ++ Nw, M := s.M + k }) : OpM P r N o s K X := by
  refine OpM_K (OpM_call ho hd hx ha henter hc (fun i ob h => by simp [lk] at h) ?_)
  intro out hout
  obtain ⟨rs, Nw, rfl, hN, hK⟩ := hk out hout
  refine ⟨trivial, ⟨{ s with env := put s.env o.dst (packA rs), l := s.l ++ Nw, M := s.M + k }, weak_of rfl (f_new (M := s.M + k) hnd (fun p hp => ?_) _ _) (Nat.le_refl _) rfl, hK⟩⟩
  have := List.mem_range'_1.1 (hN p hp)
  refine ⟨fun hi => ?_, by omega⟩
  obtain ⟨q, hq, e⟩ := List.mem_map.1 hi
  have := hlt q hq
  omega
end
end Sg
namespace Sg
open Go
set_option linter.unusedSectionVars false
set_option linter.unusedVariables false
variable [Glob]
def PV.lit : PV → Bool
  | .int _ _ | .bool _ | .str _ | .emp => true
  | _ => false
inductive Owns (P : Program) : List PV → List PV → List (Nat × AObj) → Prop
  | nil : Owns P [] [] []
  | sc (p : PV) (cs qs : List PV) (T : List (Nat × AObj)) (hp : p.lit = true) (h : Owns P cs qs T) : Owns P (p :: cs) (p :: qs) T
  | sl (e : TypeId) (id : Nat) (r : List (List PV)) (c0 : List PV) (T0 : List (Nat × AObj)) (cs qs : List PV) (T : List (Nat × AObj)) (hes : 0 < P.cellsOf e) (hr : ∀ x ∈ r, x.length = P.cellsOf e ∧ PV.pureL x = true) (h0 : Owns P c0 r.flatten T0) (h : Owns P cs qs T) :
    Owns P (.sl e id 0 r.length :: cs) (.rows e r :: qs) ((id, .cells e c0) :: (T0 ++ T))
section
variable {P : Program}
theorem Owns.app {c1 q1 c2 q2 : List PV} {T1 T2 : List (Nat × AObj)} (h1 : Owns P c1 q1 T1) (h2 : Owns P c2 q2 T2) : Owns P (c1 ++ c2) (q1 ++ q2) (T1 ++ T2) := by
  induction h1 with
  | nil => exact h2
  | sc p cs qs T hp _ ih => exact .sc p _ _ _ hp ih
  | sl e id r c0 T0 cs qs T hes hr h0 _ _ ih =>
    rw [List.cons_append, List.cons_append, List.cons_append, List.append_assoc]
    exact .sl e id r c0 T0 _ _ _ hes hr h0 ih
theorem Owns.len {cs qs : List PV} {T : List (Nat × AObj)} (h : Owns P cs qs T) : cs.length = qs.length := by
  induction h with
  | nil => rfl
  | sc p cs qs T hp _ ih => simp [ih]
  | sl e id r c0 T0 cs qs T hes hr h0 _ _ ih => simp [ih]
theorem Owns.split {cs : List PV} {T : List (Nat × AObj)} : ∀ {q1 q2 : List PV}, Owns P cs (q1 ++ q2) T → ∃ c1 c2 T1 T2, cs = c1 ++ c2 ∧ T = T1 ++ T2 ∧ Owns P c1 q1 T1 ∧ Owns P c2 q2 T2 := by
  intro q1
  induction q1 generalizing cs T with
  | nil => intro q2 h; exact ⟨[], cs, [], T, rfl, rfl, .nil, h⟩
  | cons p q1 ih =>
    intro q2 h
    rw [List.cons_append] at h
    cases h with
    | sc _ cs _ T hp h =>
      obtain ⟨c1, c2, T1, T2, rfl, rfl, h1, h2⟩ := ih h
      exact ⟨p :: c1, c2, T1, T2, rfl, rfl, .sc p _ _ _ hp h1, h2⟩
    | sl e id r c0 T0 cs _ T hes hr h0 h =>
      obtain ⟨c1, c2, T1, T2, rfl, rfl, h1, h2⟩ := ih h
      exact ⟨_ :: c1, c2, (id, .cells e c0) :: (T0 ++ T1), T2, rfl, by simp, .sl e id r c0 T0 _ _ _ hes hr h0 h1, h2⟩
theorem Owns.lit {p : PV} {cs qs : List PV} {T : List (Nat × AObj)} (h : Owns P cs (p :: qs) T) (hp : p.lit = true) : ∃ cs', cs = p :: cs' ∧ Owns P cs' qs T := by
  cases h with
  | sc _ cs _ T _ h => exact ⟨cs, rfl, h⟩
  | sl => cases hp
theorem Owns.rows {e : TypeId} {r : List (List PV)} {cs qs : List PV} {T : List (Nat × AObj)} (h : Owns P cs (.rows e r :: qs) T) : ∃ id c0 T0 cs' T', cs = .sl e id 0 r.length :: cs' ∧ T = (id, .cells e c0) :: (T0 ++ T') ∧ Owns P c0 r.flatten T0 ∧ Owns P cs' qs T' ∧ 0 < P.cellsOf e ∧ ∀ x ∈ r, x.length = P.cellsOf e ∧ PV.pureL x = true := by
  cases h with
  | sc _ cs _ T hp h => cases hp
  | sl _ id _ c0 T0 cs _ T hes hr h0 h => exact ⟨id, c0, T0, cs, T, rfl, rfl, h0, h, hes, hr⟩
theorem Owns.none {cs : List PV} {T : List (Nat × AObj)} (h : Owns P cs [] T) : cs = [] ∧ T = [] := by
  cases h; exact ⟨rfl, rfl⟩
def renQ (ρ : Nat → Nat) (q : Nat × AObj) : Nat × AObj := (ρ q.1, q.2.ren ρ)
omit [Glob] in
theorem lit_ren {p : PV} (ρ : Nat → Nat) (h : p.lit = true) : p.ren ρ = p := by
  cases p <;> first | rfl | cases h
omit [Glob] in
theorem lit_ids {p : PV} (q : Nat → Prop) (h : p.lit = true) : p.ids q := by
  cases p <;> first | (simp [PV.ids]; done) | cases h
theorem Owns.ren {cs qs : List PV} {T : List (Nat × AObj)} (ρ : Nat → Nat) (h : Owns P cs qs T) : Owns P (PV.renL ρ cs) qs (T.map (renQ ρ)) := by
  induction h with
  | nil => exact .nil
  | sc p cs qs T hp _ ih => rw [PV.renL, lit_ren ρ hp]; exact .sc p _ _ _ hp ih
  | sl e id r c0 T0 cs qs T hes hr h0 _ ih0 ih =>
    simp only [PV.renL, PV.ren, List.map_cons, List.map_append]
    exact .sl e (ρ id) r _ _ _ _ _ hes hr ih0 ih
theorem Owns.ids {cs qs : List PV} {T : List (Nat × AObj)} (p : Nat → Prop) (h : Owns P cs qs T) : (∀ j ∈ ksL T, p j) → PV.idsL p cs ∧ ∀ q ∈ T, q.2.ids p := by
  induction h with
  | nil => intro _; exact ⟨by simp [PV.idsL], fun q hq => by simp at hq⟩
  | sc x cs qs T hp _ ih => intro hk; exact ⟨⟨lit_ids p hp, (ih hk).1⟩, (ih hk).2⟩
  | sl e id r c0 T0 cs qs T hes hr h0 _ ih0 ih =>
    intro hk
    have k0 : ∀ j ∈ ksL T0, p j := fun j hj => hk j (by simp only [ksL, List.map_cons, List.map_append, List.mem_cons, List.mem_append] at hj ⊢; exact .inr (.inl hj))
    have k1 : ∀ j ∈ ksL T, p j := fun j hj => hk j (by simp only [ksL, List.map_cons, List.map_append, List.mem_cons, List.mem_append] at hj ⊢; exact .inr (.inr hj))
    obtain ⟨a0, b0⟩ := ih0 k0
    obtain ⟨a1, b1⟩ := ih k1
    refine ⟨⟨hk id (by simp [ksL]), a1⟩, fun q hq => ?_⟩
    simp only [List.mem_cons, List.mem_append] at hq
    rcases hq with rfl | hq | hq
    · exact a0
    · exact b0 q hq
    · exact b1 q hq
theorem newOk_own {ρ : Nat → Nat} {p : Nat → Prop} {s : MS} : {T : List (Nat × AObj)} → (∀ q ∈ T, s.B ≤ q.1 ∧ s.f q.1 = some q.2 ∧ q.2.ids p) → newOk ρ p s (ksL T) ((ksL T).map ρ) (T.map (renQ ρ))
  | [], _ => trivial
  | (i, o) :: r, h => by
    obtain ⟨h1, h2, h3⟩ := h (i, o) (by simp)
    refine ⟨rfl, h1, ?_, newOk_own fun q hq => h q (by simp [hq])⟩
    unfold goodObj
    rw [h2]
    exact ⟨rfl, h3⟩
omit [Glob] in
theorem renId_map : {js ns : List Nat} → js.length = ns.length → js.Nodup → js.map (renId js ns) = ns
  | [], [], _, _ => rfl
  | [], _ :: _, h, _ => by simp at h
  | _ :: _, [], h, _ => by simp at h
  | j :: js, n :: ns, h, hnd => by
    rw [List.nodup_cons] at hnd
    have ih := renId_map (js := js) (ns := ns) (by simpa using h) hnd.2
    rw [List.map_cons]
    have e0 : renId (j :: js) (n :: ns) j = n := by simp [renId]
    have e1 : js.map (renId (j :: js) (n :: ns)) = js.map (renId js ns) := by
      refine List.map_congr_left fun x hx => ?_
      simp only [renId]
      rw [if_neg]
      rintro rfl; exact hnd.1 hx
    rw [e0, e1, ih]
def OwnR (P : Program) (w : List PV → List PV) (qs : List PV) (ns : List Nat) (o : COut) : Prop := ∃ cs T, Owns P cs qs T ∧ ksL T = ns ∧ o = { rs := w cs, nw := T }
abbrev wA (cs : List PV) : List PV := [.agg cs]
attribute [go_sem] id_eq wA
theorem retOwn {rv : List ResultVar} {f0 : Nat → Option AObj} {B : Nat} {ns : List Nat} {s : MS} {w : List PV → List PV} (hw : w = id ∨ w = wA) (T : List (Nat × AObj)) {cs qs : List PV} (hO : Owns P cs qs T) (h1 : s.f0 = f0) (h2 : s.B = B) (h3 : s.df = []) (hr : resA P s.σ s.env rv = some (w cs))
    (hnd : (ksL T).Nodup) (hl : (ksL T).length = ns.length) (hin : ∀ q ∈ T, s.B ≤ q.1 ∧ s.f q.1 = some q.2) (hk : keysIn s.B [] s.l) : retQ P rv [] f0 B ns (OwnR P w qs) .ret s := by
  have hids := hO.ids (fun i => hasKey i [] = true ∨ i ∈ ksL T) (fun j hj => .inr hj)
  have e1 : (ksL T).map (renId (ksL T) ns) = ns := renId_map hl hnd
  have e2 : ksL (T.map (renQ (renId (ksL T) ns))) = ns := by
    have : ksL (T.map (renQ (renId (ksL T) ns))) = (ksL T).map (renId (ksL T) ns) := by simp [ksL, renQ]
    rw [this, e1]
  refine retK (ksL T) [] (T.map (renQ (renId (ksL T) ns))) (rs' := w (PV.renL (renId (ksL T) ns) cs)) h1 h2 h3 hr ?_ ⟨_, _, hO.ren _, e2, rfl⟩ hnd hk ?_ trivial trivial ?_
  · rcases hw with rfl | rfl
    · rfl
    · simp [wA, PV.renL, PV.ren]
  · rcases hw with rfl | rfl
    · exact hids.1
    · simp only [PV.idsL, PV.ids]; exact ⟨hids.1, trivial⟩
  · have h := newOk_own (ρ := renId (ksL T) ns) (p := fun i => hasKey i [] = true ∨ i ∈ ksL T) (s := s) (T := T) (fun q hq => ⟨(hin q hq).1, (hin q hq).2, hids.2 q hq⟩)
    rw [e1] at h
    exact h
theorem lit_sub {p : PV} (θ : TypeId → Nat → Nat → Nat → Option PV) (h : p.lit = true) : p.sub θ = p := by
  cases p <;> first | rfl | cases h
theorem lit_pure {p : PV} (h : p.lit = true) : p.pure = true := by
  cases p <;> first | rfl | cases h
theorem Owns.tbl {cs qs : List PV} {T : List (Nat × AObj)} (h : Owns P cs qs T) : ∃ t : List (TypeId × Nat × Nat × Nat × List (List PV)), t.map (fun x => x.2.1) = ksL T ∧
    ∀ (θ : TypeId → Nat → Nat → Nat → Option PV), (∀ x ∈ t, θ x.1 x.2.1 x.2.2.1 x.2.2.2.1 = some (.rows x.1 x.2.2.2.2)) → PV.subL θ cs = qs ∧ (∀ k (hk : k < cs.length), cs[k].pure = true ∨ ∃ e' id' off' n' q, cs[k] = .sl e' id' off' n' ∧ θ e' id' off' n' = some q) ∧
      ∀ f : Nat → Option AObj, (∀ x ∈ T, f x.1 = some x.2) → ∀ x ∈ t, RowsN P θ f x.1 x.2.1 x.2.2.1 x.2.2.2.1 x.2.2.2.2 := by
  induction h with
  | nil => exact ⟨[], rfl, fun θ _ => ⟨rfl, fun k hk => by simp at hk, fun f _ x hx => by simp at hx⟩⟩
  | sc p cs qs T hp _ ih =>
    obtain ⟨t, ht, hh⟩ := ih
    refine ⟨t, ht, fun θ hθ => ?_⟩
    obtain ⟨a, b, c⟩ := hh θ hθ
    refine ⟨by rw [PV.subL, lit_sub θ hp, a], fun k hk => ?_, c⟩
    cases k with
    | zero => exact .inl (lit_pure hp)
    | succ k => exact b k (by simpa using hk)
  | sl e id r c0 T0 cs qs T hes hr h0 h ih0 ih =>
    obtain ⟨t0, ht0, hh0⟩ := ih0
    obtain ⟨t1, ht1, hh1⟩ := ih
    refine ⟨(e, id, 0, r.length, r) :: (t0 ++ t1), by simp [ksL] at ht0 ht1 ⊢; rw [ht0, ht1], fun θ hθ => ?_⟩
    have hx : θ e id 0 r.length = some (.rows e r) := hθ (e, id, 0, r.length, r) (by simp)
    obtain ⟨a0, b0, c0'⟩ := hh0 θ (fun x hx => hθ x (by simp [hx]))
    obtain ⟨a1, b1, c1⟩ := hh1 θ (fun x hx => hθ x (by simp [hx]))
    refine ⟨?_, fun k hk => ?_, fun f hf x hx' => ?_⟩
    · rw [PV.subL, a1]; congr 1; rw [PV.sub, hx]
    · cases k with
      | zero => exact .inr ⟨e, id, 0, r.length, _, rfl, hx⟩
      | succ k => exact b1 k (by simpa using hk)
    · simp only [List.mem_cons, List.mem_append] at hx'
      rcases hx' with rfl | hx' | hx'
      · have hlc : c0.length = r.length * P.cellsOf e := by rw [h0.len]; exact flatten_len _ r fun x hx => (hr x hx).1
        refine ⟨hes, rfl, hr, e, c0, hf (id, .cells e c0) (by simp), ?_, ?_, fun k hk _ _ => b0 k hk⟩
        · show 0 + r.length * P.cellsOf e ≤ c0.length; omega
        · show List.map (PV.sub θ) ((c0.drop 0).take (r.length * P.cellsOf e)) = r.flatten
          rw [List.drop_zero, List.take_of_length_le (by omega), ← subL_map]; exact a0
      · exact c0' f (fun y hy => hf y (by simp [hy])) x hx'
      · exact c1 f (fun y hy => hf y (by simp [hy])) x hx'
omit [Glob] in
theorem thOf_nd {t : List (TypeId × Nat × Nat × Nat × List (List PV))} (hnd : (t.map fun x => x.2.1).Nodup) : ∀ x ∈ t, thOf t x.1 x.2.1 x.2.2.1 x.2.2.2.1 = some (.rows x.1 x.2.2.2.2) := by
  induction t with
  | nil => intro x hx; simp at hx
  | cons y t ih =>
    intro x hx
    rw [List.map_cons, List.nodup_cons] at hnd
    rcases List.mem_cons.1 hx with rfl | hx'
    · simp [thOf]
    · obtain ⟨e, id, off, n, r⟩ := y
      rw [thOf, if_neg]
      · exact ih hnd.2 x hx'
      · rintro ⟨_, h, _⟩
        exact hnd.1 (List.mem_map.2 ⟨x, hx', h.symm⟩)
theorem CallF.own {f : FuncId} {args qargs cs qs : List PV} {T : List (Nat × AObj)} {k : Nat} {Ω : List Nat → COut → Prop} (hO : Owns P cs qs T) (hnd : (ksL T).Nodup) (hsub : ∀ θ, PV.subL θ cs = qs → PV.subL θ args = qargs)
    (hfo : ∀ ns out, ns.length = k → Ω ns out → FlatOut out) (h : CallF P f qargs [] k Ω) : CallF P f args T k Ω := by
  obtain ⟨t, ht, hh⟩ := hO.tbl
  have hθ := thOf_nd (t := t) (by rw [ht]; exact hnd)
  obtain ⟨a, _, c⟩ := hh (thOf t) hθ
  refine CallF.borrowG (thOf t) hfo (thOk_nest (c (fun i => lk i T) fun x hx => lk_nd hnd hx)) ?_
  rw [hsub _ a]; exact h
theorem flatOut_rs {rs : List PV} (h : PV.flatL rs = true) : ∀ (ns : List Nat) (out : COut), ns.length = 0 → out = { rs := rs } → FlatOut out := by
  rintro ns out _ rfl
  exact ⟨rfl, rfl, h, fun x hx => by simp at hx⟩
structure InR (B M : Nat) (l : List (Nat × AObj)) : Prop where
  nd : (ksL l).Nodup
  at' : ∀ p ∈ l, B ≤ p.1 ∧ p.1 < M
omit [Glob] in
theorem inR_nil {B M : Nat} : InR B M [] := ⟨List.nodup_nil, fun p hp => by simp at hp⟩
omit [Glob] in
theorem inR_cons {B M k : Nat} {o : AObj} {l : List (Nat × AObj)} : InR B M ((k, o) :: l) ↔ (B ≤ k ∧ k < M) ∧ (∀ p ∈ l, p.1 ≠ k) ∧ InR B M l := by
  constructor
  · rintro ⟨h1, h2⟩
    simp only [ksL, List.map_cons, List.nodup_cons] at h1
    refine ⟨h2 (k, o) (by simp), fun p hp e => h1.1 (e ▸ List.mem_map_of_mem hp), h1.2, fun p hp => h2 p (by simp [hp])⟩
  · rintro ⟨h1, h2, h3, h4⟩
    refine ⟨?_, fun p hp => ?_⟩
    · simp only [ksL, List.map_cons, List.nodup_cons]
      refine ⟨fun hx => ?_, h3⟩
      obtain ⟨p, hp, e⟩ := List.mem_map.1 hx
      exact h2 p hp e
    · rcases List.mem_cons.1 hp with rfl | hp
      · exact h1
      · exact h4 p hp
omit [Glob] in
theorem InR.mono {B M B' M' : Nat} {l : List (Nat × AObj)} (h : InR B M l) (h1 : B' ≤ B) (h2 : M ≤ M') : InR B' M' l := ⟨h.nd, fun p hp => ⟨Nat.le_trans h1 (h.at' p hp).1, Nat.lt_of_lt_of_le (h.at' p hp).2 h2⟩⟩
omit [Glob] in
theorem InR.app {B M N : Nat} {l r : List (Nat × AObj)} (h1 : InR B M l) (h2 : InR M N r) (hB : B ≤ M) (hM : M ≤ N) : InR B N (l ++ r) := by
  refine ⟨?_, fun p hp => ?_⟩
  · rw [ksL_app, List.nodup_append]
    refine ⟨h1.nd, h2.nd, fun a ha b hb e => ?_⟩
    obtain ⟨p, hp, rfl⟩ := List.mem_map.1 ha
    obtain ⟨q, hq, rfl⟩ := List.mem_map.1 hb
    have := (h1.at' p hp).2
    have := (h2.at' q hq).1
    omega
  · rcases List.mem_append.1 hp with hp | hp
    · have := h1.at' p hp; exact ⟨this.1, by omega⟩
    · have := h2.at' p hp; exact ⟨by omega, this.2⟩
omit [Glob] in
theorem InR.push {B M k : Nat} {o : AObj} {l : List (Nat × AObj)} (h : InR (k + 1) M l) (h1 : B ≤ k) (h2 : k < M) : InR B M ((k, o) :: l) :=
  inR_cons.2 ⟨⟨h1, h2⟩, fun p hp e => by have := (h.at' p hp).1; omega, h.mono (by omega) (Nat.le_refl _)⟩
omit [Glob] in
theorem inR_range {B k : Nat} {l : List (Nat × AObj)} (h : ksL l = List.range' B k) : InR B (B + k) l :=
  ⟨by rw [h]; exact List.nodup_range', fun p hp => by have := ksL_mem hp; rw [h] at this; exact List.mem_range'_1.1 this⟩
omit [Glob] in
theorem InR.f {s : MS} {B M : Nat} (h : InR B M s.l) {q : Nat × AObj} (hq : q ∈ s.l) : s.f q.1 = some q.2 := by
  simp only [MS.f, lk_nd h.nd hq]
omit [Glob] in
theorem InR.keys {B M : Nat} {l : List (Nat × AObj)} (h : InR B M l) : keysIn B [] l := keysIn_of fun p hp => .inl (h.at' p hp).1
omit [Glob] in
theorem InR.keep {B M : Nat} {f0 : Nat → Option AObj} {l l' : List (Nat × AObj)} (h : InR B M l) : keepB B f0 l' l := keepB_of fun p hp => .inl (h.at' p hp).1
theorem call_own {r : Option Nat} {N : Nat} {o : Oper} {s : MS} {K : MS → Prop} {X : PV → MS → Prop} {x : Operand} {as : Array Operand} {ts : Array TypeId} {f : FuncId} {ps qs : List PV} {k : Nat} {w : List PV → List PV}
    (hc : CallF P f ps [] k (OwnR P w qs)) (henter : ∀ args w, (callFunc f args).run P w = .ok (.enter f args) w) (ho : o.op = .call { callee := .value x, args := as, argTypes := ts }) (hd : dstOk N o.dst = true) (hx : ev s.env x = some (.fn (.func f) [] [])) (ha : evs s.env as.toList = some ps)
    (hI : InR s.B s.M s.l) (hBM : s.B ≤ s.M)
    (hk : ∀ cs T, Owns P cs qs T → InR s.M (s.M + k) T → (ksL T).length = k → K { s with env := put s.env o.dst (packA (w cs)), l := s.l ++ T, M := s.M + k }) : OpM P r N o s K X := by
  refine call_new (first := []) (cap := []) (ps := ps) (by simpa using hc) henter ho hd hx ha hI.nd (fun p hp => (hI.at' p hp).2) hBM ?_
  rintro out ⟨cs, T, hO, hks, rfl⟩
  exact ⟨_, _, rfl, fun p hp => hks ▸ ksL_mem hp, hk cs T hO (inR_range hks) (by rw [hks, List.length_range'])⟩
theorem retOwnI {rv : List ResultVar} {f0 : Nat → Option AObj} {B M : Nat} {ns : List Nat} {s : MS} {w : List PV → List PV} (hw : w = id ∨ w = wA) (T : List (Nat × AObj)) {cs qs : List PV} (hO : Owns P cs qs T) (h1 : s.f0 = f0) (h2 : s.B = B) (h3 : s.df = []) (hr : resA P s.σ s.env rv = some (w cs))
    (hl : (ksL T).length = ns.length) (hI : InR s.B M s.l) (hT : ∀ q ∈ T, q ∈ s.l) (hnd : (ksL T).Nodup) : retQ P rv [] f0 B ns (OwnR P w qs) .ret s :=
  retOwn hw T hO h1 h2 h3 hr hnd hl (fun q hq => ⟨(hI.at' q (hT q hq)).1, hI.f (hT q hq)⟩) hI.keys
theorem Owns.lits {cs qs : List PV} {T : List (Nat × AObj)} (l : List PV) (hl : l.all PV.lit = true) (h : Owns P cs qs T) : Owns P (l ++ cs) (l ++ qs) T := by
  induction l with
  | nil => exact h
  | cons p l ih =>
    simp only [List.all_cons, Bool.and_eq_true] at hl
    exact .sc p _ _ _ hl.1 (ih hl.2)
theorem ownsSl {e : TypeId} (id n : Nat) {r : List (List PV)} {c0 : List PV} {T0 : List (Nat × AObj)} (hn : r.length = n) (hes : 0 < P.cellsOf e) (hr : ∀ x ∈ r, x.length = P.cellsOf e ∧ PV.pureL x = true) (h0 : Owns P c0 r.flatten T0) : Owns P [.sl e id 0 n] [.rows e r] ((id, .cells e c0) :: T0) := by
  have := Owns.sl e id r c0 T0 [] [] [] hes hr h0 .nil
  rw [List.append_nil] at this
  rw [← hn]; exact this
omit [Glob] in
theorem splice_fill {C z v : List PV} {n i w : Nat} (hC : C.length = i * w) (hz : z.length = w) (hv : v.length = w) (h : i < n) : splice (C ++ rep (n - i) z) (i * w) v = C ++ v ++ rep (n - (i + 1)) z := by
  have h2 : rep (n - i) z = z ++ rep (n - (i + 1)) z := by
    rw [show n - i = n - (i + 1) + 1 from by omega, rep, List.replicate_succ, List.flatten_cons]; rfl
  rw [splice, h2, List.take_append_of_le_length (by omega), List.take_of_length_le (by omega), List.drop_append, List.drop_of_length_le (by omega), hC, hv, Nat.add_sub_cancel_left]
  congr 1
  rw [List.nil_append]
  have : w = z.length := hz.symm
  rw [this, List.drop_left]
theorem Owns.elem {α : Type} [Inhabited α] {l : List α} {F : α → List PV} {i : Nat} (h : i < l.length) {c : List PV} {T : List (Nat × AObj)} (hO : Owns P c ((l.drop i).map F).flatten T) : ∃ c1 c2 T1 T2, c = c1 ++ c2 ∧ T = T1 ++ T2 ∧ Owns P c1 (F (l.getD i default)) T1 ∧ Owns P c2 ((l.drop (i + 1)).map F).flatten T2 := by
  rw [List.drop_eq_getElem_cons h, List.map_cons, List.flatten_cons] at hO
  have e : l.getD i default = l[i] := by simp [List.getD, h]
  rw [e]
  exact hO.split
theorem Owns.snoc {α : Type} [Inhabited α] {l : List α} {F : α → List PV} {i : Nat} (h : i < l.length) {C c : List PV} {D T : List (Nat × AObj)} (h1 : Owns P C ((l.take i).map F).flatten D) (h2 : Owns P c (F (l.getD i default)) T) : Owns P (C ++ c) ((l.take (i + 1)).map F).flatten (D ++ T) := by
  have e : l.getD i default = l[i] := by simp [List.getD, h]
  rw [e] at h2
  rw [List.take_succ_eq_append_getElem h, List.map_append, List.flatten_append]
  refine h1.app ?_
  simpa using h2
omit [Glob] in
theorem flat_take_len {α : Type} {l : List α} {F : α → List PV} {w i : Nat} (hw : ∀ x, (F x).length = w) (h : i ≤ l.length) : ((l.take i).map F).flatten.length = i * w := by
  rw [flatten_len w _ (fun x hx => by
    obtain ⟨y, _, rfl⟩ := List.mem_map.1 hx
    exact hw y)]
  simp [Nat.min_eq_left h]
theorem Owns.snocL {α : Type} [Inhabited α] {l : List α} {F : α → List PV} {c : List PV} {x : α} {C : List PV} {D T : List (Nat × AObj)} (h1 : Owns P C (l.map F).flatten D) (h2 : Owns P c (F x) T) : Owns P (C ++ c) ((l ++ [x]).map F).flatten (D ++ T) := by
  rw [List.map_append, List.flatten_append]
  refine h1.app ?_
  simpa using h2
def setU (T : List (Nat × AObj)) : List (Nat × Option AObj) := T.map fun p => (p.1, some p.2)
omit [Glob] in
theorem lk_setU {i : Nat} : {T : List (Nat × AObj)} → lk i (setU T) = (lk i T).map some
  | [] => rfl
  | (k, v) :: r => by
    show (if k = i then some (some v) else lk i (setU r)) = (if k = i then some v else lk i r).map some
    split
    · rfl
    · exact lk_setU
omit [Glob] in
theorem okDel_setU {B : Nat} {f0 : Nat → Option AObj} : {T : List (Nat × AObj)} → okDel B f0 (setU T)
  | [] => trivial
  | _ :: r => okDel_setU (T := r)
omit [Glob] in
theorem updOk_setU {l : List (Nat × AObj)} : {T : List (Nat × AObj)} → (∀ p ∈ T, p.1 ∈ ksL l) → updOk l (setU T)
  | [], _ => trivial
  | x :: r, h => ⟨lk_some_of (h x (by simp)), updOk_setU fun p hp => h p (by simp [hp])⟩
omit [Glob] in
theorem oldOk_setU {s : MS} {p : Nat → Prop} {T : List (Nat × AObj)} (hT : ∀ q ∈ T, s.f q.1 = some q.2 ∧ q.2.ids p) : {l : List (Nat × AObj)} → (∀ q ∈ l, q.1 ∈ ksL T) → oldOk0 s (setU T) p l
  | [], _ => trivial
  | (i, o) :: r, h => by
    refine ⟨?_, oldOk_setU hT fun q hq => h q (by simp [hq])⟩
    have hk := lk_some_of (h (i, o) (by simp))
    obtain ⟨o', ho'⟩ := Option.isSome_iff_exists.1 hk
    rw [lk_setU, ho']
    exact hT (i, o') (lk_in ho')
omit [Glob] in
theorem f_set {s : MS} {d : Option Nat} {v : PV} {M : Nat} {T T' pre post : List (Nat × AObj)} (hl : s.l = pre ++ (T ++ post)) (hnd : (ksL s.l).Nodup) (hks : ksL T' = ksL T) (e : Env) (M' : Nat) :
    ∀ i x, MS.f { s with env := e, l := pre ++ (T' ++ post), M := M' } i = some x → (s.out d ⟨v, setU T', []⟩ M).f i = some x := by
  intro i x h
  have hout : (s.out d ⟨v, setU T', []⟩ M).f i = (match lk i (setU T') with | some o => o | none => s.f i) := lk_updl (s := s) (i := i) okDel_setU
  rw [hout, lk_setU]
  simp only [MS.f, lk_append] at h ⊢
  rw [hl, lk_append, lk_append]
  have hno : i ∈ ksL T' → i ∉ ksL pre := by
    intro h1 h2
    rw [hl, ksL_app, ksL_app, List.nodup_append] at hnd
    exact hnd.2.2 i h2 i (List.mem_append_left _ (hks ▸ h1)) rfl
  cases hT : lk i T' with
  | some o =>
    have hp : lk i pre = none := lk_out (hno (ksL_mem (lk_in hT)))
    rw [hp, hT] at h
    exact h
  | none =>
    have hT2 : lk i T = none := lk_out fun hi => by
      rw [← hks] at hi
      have := lk_some_of hi
      rw [hT] at this; cases this
    rw [hT] at h
    rw [hT2]
    exact h
def SetR (P : Program) (cs : List PV) (n : Int) (qs : List PV) (T : List (Nat × AObj)) (_ : List Nat) (o : COut) : Prop := ∃ T', Owns P cs qs T' ∧ ksL T' = ksL T ∧ o = { rs := [.int .i64 n], u := setU T' }
theorem call_set {r : Option Nat} {N : Nat} {o : Oper} {s : MS} {K : MS → Prop} {X : PV → MS → Prop} {x : Operand} {as : Array Operand} {ts : Array TypeId} {f : FuncId} {ps cs qs : List PV} {n : Int} {T : List (Nat × AObj)} (pre post : List (Nat × AObj))
    (hc : CallF P f ps T 0 (SetR P cs n qs T)) (henter : ∀ args w, (callFunc f args).run P w = .ok (.enter f args) w) (ho : o.op = .call { callee := .value x, args := as, argTypes := ts }) (hd : dstOk N o.dst = true) (hx : ev s.env x = some (.fn (.func f) [] [])) (ha : evs s.env as.toList = some ps)
    (hl : s.l = pre ++ (T ++ post)) (hnd : (ksL s.l).Nodup)
    (hk : ∀ T', Owns P cs qs T' → ksL T' = ksL T → K { s with env := put s.env o.dst (.int .i64 n), l := pre ++ (T' ++ post) }) : OpM P r N o s K X := by
  refine OpM_K (OpM_call (first := []) (cap := []) (ps := ps) ho hd hx ha henter (by simpa using hc) (fun i ob h => ?_) ?_)
  · have : (i, ob) ∈ s.l := by rw [hl]; simp [lk_in h]
    simp only [MS.f, lk_nd hnd this]
  · rintro out ⟨T', hO, hks, rfl⟩
    refine ⟨okDel_setU, ⟨{ s with env := put s.env o.dst (.int .i64 n), l := pre ++ (T' ++ post) }, weak_of rfl (f_set (M := s.M + 0) hl hnd hks _ _) (Nat.le_refl _) rfl, hk T' hO hks⟩⟩
theorem retSet {rv : List ResultVar} {f0 : Nat → Option AObj} {B : Nat} {ns : List Nat} {s : MS} {cs qs : List PV} {n : Int} {T T' : List (Nat × AObj)} (hn : ns = []) (hO : Owns P cs qs T') (hks : ksL T' = ksL T) (h1 : s.f0 = f0) (h2 : s.B = B) (h3 : s.df = []) (hr : resA P s.σ s.env rv = some [.int .i64 n])
    (hin : ∀ q ∈ T', s.f q.1 = some q.2) (hk : keysIn s.B T s.l) : retQ P rv T f0 B ns (SetR P cs n qs T) .ret s := by
  subst hn
  refine ret0 (setU T') h1 h2 h3 hr ⟨T', hO, hks, rfl⟩ hk (by simp [PV.idsL, PV.ids]) (updOk_setU fun p hp => hks ▸ ksL_mem hp) (oldOk_setU (fun q hq => ⟨hin q hq, ?_⟩) fun q hq => hks ▸ ksL_mem hq)
  exact (hO.ids (fun i => hasKey i T = true ∨ i ∈ ([] : List Nat)) (fun j hj => .inl (lk_some_of (hks ▸ hj)))).2 q hq
omit [Glob] in
theorem fill_len {C z : List PV} {n i w : Nat} (hC : C.length = i * w) (hz : z.length = w) (h : i ≤ n) : (C ++ rep (n - i) z).length = n * w := by
  rw [List.length_append, hC, rep_length, hz, ← Nat.add_mul]
  congr 1; omega
end
end Sg
