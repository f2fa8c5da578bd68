/- A part of a proof: lemmas and contracts of functions; the last text of the claim says what is proved. -/
import Derived.RangeFuncIn
import Derived.Deep.MidRow
import Derived.Below
import Derived.Deep.LoopGhost
import Derived.Laws.StructEq
import Derived.Laws.Slices
import Derived.WalkSpells
import Derived.WalkLawsBesides
import Derived.LaidEql
import Derived.Laws.BytesString
import Derived.Deep.AppendSrc
import Derived.Laws.MakeOwn
import Derived.Great.BuildSlice
import Derived.RangeFuncRecord
set_option linter.unusedSectionVars false
set_option linter.unusedSimpArgs false
set_option linter.unusedVariables false
namespace Sg
open Go
inductive PV where
  | bool (b : Bool)
  | int (k : IntKind) (n : Int)
  | str (s : ByteArray)
  | nilp
  | ptr (id off : Nat)
  | vptr (cs : List PV)
  | kptr (b off : Nat)
  | rows (e : TypeId) (r : List (List PV))
  | emp
  | sl (e : TypeId) (id off len : Nat)
  | map (id : Nat)
  | nilm
  | nilfn
  | fn (f : Fn) (first cap : List PV)
  | nilif
  | iface (t : TypeId) (v : PV)
  | agg (cs : List PV)
  | tuple (vs : List PV)
  | dead
  deriving Inhabited
mutual
def PV.pure : PV → Bool
  | .ptr _ _ | .sl _ _ _ _ | .map _ | .dead => false
  | .fn _ a c => PV.pureL a && PV.pureL c
  | .iface _ v => v.pure
  | .agg cs | .tuple cs => PV.pureL cs
  | _ => true
def PV.pureL : List PV → Bool
  | [] => true
  | x :: r => x.pure && PV.pureL r
end
def PV.cell : PV → Bool
  | .agg _ | .tuple _ | .dead => false
  | _ => true
theorem pureL_iff (l : List PV) : PV.pureL l = true ↔ ∀ x ∈ l, x.pure = true := by
  induction l with
  | nil => simp [PV.pureL]
  | cons x r ih => simp [PV.pureL, ih]
structure Gh where
  io : Nat → Option (Nat × Nat × TypeId)
  H : Nat → Option Obj
structure Gh.le (g g' : Gh) : Prop where
  io : ∀ id e, g.io id = some e → g'.io id = some e
  H : ∀ b o, g.H b = some o → g'.H b = some o
theorem Gh.le.refl (g : Gh) : g.le g := ⟨fun _ _ h => h, fun _ _ h => h⟩
theorem Gh.le.trans {a b c : Gh} (h : a.le b) (k : b.le c) : a.le c := ⟨fun i e x => k.io i e (h.io i e x), fun i e x => k.H i e (h.H i e x)⟩
inductive R (P : Program) (g : Gh) : PV → Value → Prop
  | bool (b) : R P g (.bool b) (.bool b)
  | int (k n) : R P g (.int k n) (.int k n)
  | str (s) : R P g (.str s) (.string s)
  | nilp : R P g .nilp (.pointer none)
  | ptr (id off b N T) (h : g.io id = some (b, N, T)) : R P g (.ptr id off) (.pointer (some ⟨b, off, none⟩))
  | vptr (cs : List PV) (b off : Nat) (arr : Array Value) (T : TypeId) (fr : Nat × Nat) (h : g.H b = some (.cells arr T fr)) (hn : off + cs.length ≤ arr.size)
      (hp : PV.pureL cs = true) (hr : ∀ j (hj : j < cs.length), R P g cs[j] (arr.getD (off + j) undef)) : R P g (.vptr cs) (.pointer (some ⟨b, off, none⟩))
  | kptr (b off : Nat) : R P g (.kptr b off) (.pointer (some ⟨b, off, none⟩))
  | rows0 (e a cap) : R P g (.rows e []) (.slice a 0 cap)
  | emp (a) : R P g .emp (.slice a 0 0)
  | rows (e : TypeId) (r : List (List PV)) (b off cap : Nat) (arr : Array Value) (T : TypeId) (fr : Nat × Nat) (h : g.H b = some (.cells arr T fr)) (hes : 0 < P.cellsOf e) (hc : r.length ≤ cap)
      (hn : off + r.length * P.cellsOf e ≤ arr.size) (hl : ∀ c ∈ r, c.length = P.cellsOf e) (hp : ∀ c ∈ r, PV.pureL c = true) (hce : ∀ c ∈ r, ∀ x ∈ c, x.cell = true)
      (hr : ∀ i j (hi : i < r.length) (hj : j < (r[i]).length), R P g (r[i][j]) (arr.getD (off + i * P.cellsOf e + j) undef)) : R P g (.rows e r) (.slice (some ⟨b, off, none⟩) r.length cap)
  | sl (e id off len cap b N T) (h : g.io id = some (b, N, T)) (hlc : len ≤ cap) (hc : off + cap * P.cellsOf e ≤ N) : R P g (.sl e id off len) (.slice (some ⟨b, off, none⟩) len cap)
  | sl0 (e id off a b T) (h : g.io id = some (b, 0, T)) : R P g (.sl e id off 0) (.slice a 0 0)
  | map (id b N T) (h : g.io id = some (b, N, T)) : R P g (.map id) (.map (some b))
  | nilm : R P g .nilm (.map none)
  | nilfn : R P g .nilfn .nilFunc
  | fn (f : Fn) (a c : List PV) (va vc : Array Value) (ha : va.size = a.length) (hc : vc.size = c.length) (h1 : ∀ j (hj : j < a.length), R P g a[j] (va.getD j undef))
      (h2 : ∀ j (hj : j < c.length), R P g c[j] (vc.getD j undef)) : R P g (.fn f a c) (.func f va vc)
  | nilif : R P g .nilif .nilIface
  | iface (t v u) (h : R P g v u) : R P g (.iface t v) (.iface t u)
  | agg (cs : List PV) (vs : Array Value) (hl : vs.size = cs.length) (h : ∀ j (hj : j < cs.length), R P g cs[j] (vs.getD j undef)) : R P g (.agg cs) (.agg vs)
  | tuple (cs : List PV) (vs : Array Value) (hl : vs.size = cs.length) (h : ∀ j (hj : j < cs.length), R P g cs[j] (vs.getD j undef)) : R P g (.tuple cs) (.tuple vs)
  | dead (v) : R P g .dead v
theorem R.mono {P : Program} {g g' : Gh} {p : PV} {v : Value} (h : R P g p v) (hg : g.le g') : R P g' p v := by
  induction h with
  | bool b => exact .bool b
  | int k n => exact .int k n
  | str s => exact .str s
  | nilp => exact .nilp
  | ptr id off b N T h => exact .ptr id off b N T (hg.io _ _ h)
  | vptr cs b off arr T fr h hn hp _ ih => exact .vptr cs b off arr T fr (hg.H _ _ h) hn hp ih
  | kptr b o => exact .kptr b o
  | rows0 e a cap => exact .rows0 e a cap
  | emp a => exact .emp a
  | rows e r b off cap arr T fr h hes hc hn hl hp hce _ ih => exact .rows e r b off cap arr T fr (hg.H _ _ h) hes hc hn hl hp hce ih
  | sl e id off len cap b N T h hlc hc => exact .sl e id off len cap b N T (hg.io _ _ h) hlc hc
  | sl0 e id off a b T h => exact .sl0 e id off a b T (hg.io _ _ h)
  | map id b N T h => exact .map id b N T (hg.io _ _ h)
  | nilm => exact .nilm
  | nilfn => exact .nilfn
  | fn f a c va vc ha hc _ _ ih1 ih2 => exact .fn f a c va vc ha hc ih1 ih2
  | nilif => exact .nilif
  | iface t v u _ ih => exact .iface t v u ih
  | agg cs vs hl _ ih => exact .agg cs vs hl ih
  | tuple cs vs hl _ ih => exact .tuple cs vs hl ih
  | dead v => exact .dead v
mutual
def PV.ids (p : Nat → Prop) : PV → Prop
  | .ptr id _ | .sl _ id _ _ | .map id => p id
  | .fn _ a c => PV.idsL p a ∧ PV.idsL p c
  | .iface _ v => v.ids p
  | .agg cs | .tuple cs => PV.idsL p cs
  | _ => True
def PV.idsL (p : Nat → Prop) : List PV → Prop
  | [] => True
  | x :: r => x.ids p ∧ PV.idsL p r
end
theorem idsL_iff (p : Nat → Prop) (l : List PV) : PV.idsL p l ↔ ∀ x ∈ l, x.ids p := by
  induction l with
  | nil => simp [PV.idsL]
  | cons x r ih => simp [PV.idsL, ih]
theorem idsL_get {p : Nat → Prop} {l : List PV} (h : PV.idsL p l) (j : Nat) (hj : j < l.length) : (l[j]).ids p := (idsL_iff p l).1 h _ (List.getElem_mem hj)
theorem R.turn {P : Program} {g g' : Gh} {p : PV} {v : Value} (h : R P g p v) (hH : ∀ b o, g.H b = some o → g'.H b = some o) :
    p.ids (fun id => g'.io id = g.io id) → R P g' p v := by
  induction h with
  | bool b => exact fun _ => .bool b
  | int k n => exact fun _ => .int k n
  | str s => exact fun _ => .str s
  | nilp => exact fun _ => .nilp
  | ptr id off b N T h => exact fun hi => .ptr id off b N T ((show g'.io id = g.io id from hi).trans h)
  | vptr cs b off arr T fr h hn hp hr ih =>
    intro _
    refine .vptr cs b off arr T fr (hH _ _ h) hn hp fun j hj => ih j hj ?_
    have := (pureL_iff cs).1 hp _ (List.getElem_mem hj)
    exact pure_ids _ this
  | kptr b o => exact fun _ => .kptr b o
  | rows0 e a cap => exact fun _ => .rows0 e a cap
  | emp a => exact fun _ => .emp a
  | rows e r b off cap arr T fr h hes hc hn hl hp hce hr ih =>
    intro _
    refine .rows e r b off cap arr T fr (hH _ _ h) hes hc hn hl hp hce fun i j hi hj => ih i j hi hj ?_
    exact pure_ids _ ((pureL_iff _).1 (hp _ (List.getElem_mem hi)) _ (List.getElem_mem hj))
  | sl e id off len cap b N T h hlc hc => exact fun hi => .sl e id off len cap b N T ((show g'.io id = g.io id from hi).trans h) hlc hc
  | sl0 e id off a b T h => exact fun hi => .sl0 e id off a b T ((show g'.io id = g.io id from hi).trans h)
  | map id b N T h => exact fun hi => .map id b N T ((show g'.io id = g.io id from hi).trans h)
  | nilm => exact fun _ => .nilm
  | nilfn => exact fun _ => .nilfn
  | fn f a c va vc ha hc _ _ ih1 ih2 => exact fun hi => .fn f a c va vc ha hc (fun j hj => ih1 j hj (idsL_get hi.1 j hj)) (fun j hj => ih2 j hj (idsL_get hi.2 j hj))
  | nilif => exact fun _ => .nilif
  | iface t v u _ ih => exact fun hi => .iface t v u (ih hi)
  | agg cs vs hl _ ih => exact fun hi => .agg cs vs hl (fun j hj => ih j hj (idsL_get hi j hj))
  | tuple cs vs hl _ ih => exact fun hi => .tuple cs vs hl (fun j hj => ih j hj (idsL_get hi j hj))
  | dead v => exact fun _ => .dead v
where
  pure_ids {p : Nat → Prop} : (x : PV) → x.pure = true → x.ids p
    | .bool _, _ | .int _ _, _ | .str _, _ | .nilp, _ | .vptr _, _ | .kptr _ _, _ | .rows _ _, _ | .emp, _ | .nilm, _ | .nilfn, _ | .nilif, _ => trivial
    | .ptr _ _, h | .sl _ _ _ _, h | .map _, h | .dead, h => by simp [PV.pure] at h
    | .fn _ a c, h => by
      simp only [PV.pure, Bool.and_eq_true] at h
      exact ⟨pure_idsL a h.1, pure_idsL c h.2⟩
    | .iface _ v, h => pure_ids v h
    | .agg cs, h => pure_idsL cs h
    | .tuple cs, h => pure_idsL cs h
  pure_idsL {p : Nat → Prop} : (l : List PV) → PV.pureL l = true → PV.idsL p l
    | [], _ => trivial
    | x :: r, h => by
      simp only [PV.pureL, Bool.and_eq_true] at h
      exact ⟨pure_ids x h.1, pure_idsL r h.2⟩
theorem pure_ids {p : Nat → Prop} (x : PV) (h : x.pure = true) : x.ids p := R.turn.pure_ids x h
theorem pure_idsL {p : Nat → Prop} (l : List PV) (h : PV.pureL l = true) : PV.idsL p l := R.turn.pure_idsL l h
theorem R.named {P : Program} {g : Gh} {p : PV} {v : Value} (h : R P g p v) : p.ids (fun id => (g.io id).isSome = true) := by
  induction h with
  | ptr id off b N T h => simp [PV.ids, h]
  | sl e id off len cap b N T h hlc hc => simp [PV.ids, h]
  | sl0 e id off a b T h => simp [PV.ids, h]
  | map id b N T h => simp [PV.ids, h]
  | fn f a c va vc ha hc _ _ ih1 ih2 =>
    refine ⟨(idsL_iff _ _).2 fun x hx => ?_, (idsL_iff _ _).2 fun x hx => ?_⟩
    · obtain ⟨j, hj, rfl⟩ := List.getElem_of_mem hx; exact ih1 j hj
    · obtain ⟨j, hj, rfl⟩ := List.getElem_of_mem hx; exact ih2 j hj
  | iface t v u _ ih => exact ih
  | agg cs vs hl _ ih =>
    refine (idsL_iff _ _).2 fun x hx => ?_
    obtain ⟨j, hj, rfl⟩ := List.getElem_of_mem hx; exact ih j hj
  | tuple cs vs hl _ ih =>
    refine (idsL_iff _ _).2 fun x hx => ?_
    obtain ⟨j, hj, rfl⟩ := List.getElem_of_mem hx; exact ih j hj
  | _ => exact trivial
theorem ids_mono {p q : Nat → Prop} (h : ∀ i, p i → q i) : (x : PV) → x.ids p → x.ids q := fun x => go x
where
  go : (x : PV) → x.ids p → x.ids q
    | .bool _, _ | .int _ _, _ | .str _, _ | .nilp, _ | .vptr _, _ | .kptr _ _, _ | .rows _ _, _ | .emp, _ | .nilm, _ | .nilfn, _ | .nilif, _ | .dead, _ => trivial
    | .ptr _ _, k | .sl _ _ _ _, k | .map _, k => h _ k
    | .fn _ a c, k => ⟨goL a k.1, goL c k.2⟩
    | .iface _ v, k => go v k
    | .agg cs, k => goL cs k
    | .tuple cs, k => goL cs k
  goL : (l : List PV) → PV.idsL p l → PV.idsL q l
    | [], _ => trivial
    | x :: r, k => ⟨go x k.1, goL r k.2⟩
abbrev Env := List (Nat × PV)
def get : Env → Nat → Option PV
  | [], _ => none
  | (k, v) :: r, t => if k = t then some v else get r t
def mapE (f : PV → PV) : Env → Env
  | [] => []
  | (k, v) :: r => (k, f v) :: mapE f r
theorem get_mapE (f : PV → PV) (t : Nat) : (e : Env) → get (mapE f e) t = (get e t).map f
  | [] => rfl
  | (k, p) :: r => by
    simp only [mapE, get]
    split
    · rfl
    · exact get_mapE f t r
inductive AObj where
  | cells (T : TypeId) (cs : List PV)
  | map (es : List (PV × PV))
  | loop (b d : Nat) (st : LoopState) (pend : Option Code) (fn : FuncId) (N : Nat) (env : Env) (ps : Array Nat) (as body : Code)
  | dfr (b : Nat)
  deriving Inhabited
structure Store where
  f : Nat → Option AObj
  fr : Nat → Prop
def Store.set (σ : Store) (id : Nat) (o : AObj) : Store := { σ with f := fun i => if i = id then some o else σ.f i }
def Store.drop (σ : Store) (id : Nat) : Store := { σ with f := fun i => if i = id then none else σ.f i }
def Store.new (σ : Store) (id : Nat) (o : AObj) : Store := { f := fun i => if i = id then some o else σ.f i, fr := fun i => σ.fr i ∧ i ≠ id }
def Store.inf (σ : Store) : Prop := ∃ n, ∀ i, n ≤ i → σ.fr i
def ObjOk (P : Program) (g : Gh) (w : World) (id : Nat) : AObj → Prop
  | .cells T cs => ∃ b arr, g.io id = some (b, arr.size, T) ∧ (arr.size = 0 ∨ w.heap[b]? = some (.cells arr T (0, 0))) ∧ cs.length ≤ arr.size ∧ ∀ j (hj : j < cs.length), R P g cs[j] (arr.getD j undef) ∧ cs[j].cell = true
  | .map es => ∃ b ms clock, g.io id = some (b, 1, 0) ∧ w.heap[b]? = some (.map ms clock) ∧ ms.size = es.length ∧
      ∀ j (hj : j < es.length), R P g es[j].1 (ms.getD j default).key ∧ R P g es[j].2 (ms.getD j default).val ∧ es[j].1.pure = true
  | .loop b d st pend fn N env ps as body => g.io id = some (b, 1, 0) ∧ ∃ tmps : Array Value, w.heap[b]? = some (.loop { state := st, pending := pend, fn, tmps, params := ps, assign := as, body, defers := d }) ∧ tmps.size = N ∧ ∀ t p, get env t = some p → R P g p (tmps.getD t undef)
  | .dfr b => g.io id = some (b, 1, 0) ∧ w.heap[b]? = some (.deferred (some []))
class Glob where
  tab : Nat → Option (List PV)
set_option linter.unusedSectionVars false
variable [Glob]
def GlobOk (P : Program) (g : Gh) : Prop := ∀ i cs, Glob.tab i = some cs → R P g (.vptr cs) (.pointer (some ⟨i, 0, none⟩)) ∧ ∃ arr T fr, g.H i = some (.cells arr T fr) ∧ arr.size = cs.length
theorem GlobOk.mono {P : Program} {g g' : Gh} (h : GlobOk P g) (hg : g.le g') : GlobOk P g' := fun i cs e => ⟨(h i cs e).1.mono hg, let ⟨arr, T, fr, a, b⟩ := (h i cs e).2; ⟨arr, T, fr, hg.H _ _ a, b⟩⟩
structure Inv (P : Program) (g : Gh) (σ : Store) (w : World) : Prop where
  hH : ∀ b o, g.H b = some o → w.heap[b]? = some o
  obj : ∀ id o, σ.f id = some o → ObjOk P g w id o
  inj : ∀ i j o o' e e', σ.f i = some o → σ.f j = some o' → g.io i = some e → g.io j = some e' → 0 < e.2.1 → 0 < e'.2.1 → e.1 = e'.1 → i = j
  dis : ∀ i o e, σ.f i = some o → g.io i = some e → 0 < e.2.1 → g.H e.1 = none
  fr : ∀ i, σ.fr i → g.io i = none
  gl : GlobOk P g
structure Frame (w w' : World) : Prop where
  os : w'.os = w.os
  tape : w'.tape = w.tape
  output : w'.output = w.output
  size : w.heap.size ≤ w'.heap.size
omit [Glob] in
theorem Frame.refl (w : World) : Frame w w := ⟨rfl, rfl, rfl, Nat.le_refl _⟩
omit [Glob] in
theorem Frame.trans {a b c : World} (h : Frame a b) (k : Frame b c) : Frame a c := ⟨k.os.trans h.os, k.tape.trans h.tape, k.output.trans h.output, Nat.le_trans h.size k.size⟩
end Sg
namespace Sg
open Go
set_option linter.unusedSectionVars false
variable [Glob]
def put (env : Env) (d : Option Nat) (v : PV) : Env :=
  match d with
  | none => env
  | some d => (d, v) :: env
inductive DA where
  | mark (id : Nat)
  | call (f : Fn) (cap args : List PV)
def RL (P : Program) (g : Gh) (l : List PV) (a : Array Value) : Prop := a.size = l.length ∧ ∀ j (hj : j < l.length), R P g l[j] (a.getD j undef)
inductive RD (P : Program) (g : Gh) : DA → Deferred → Prop
  | mark (id b N T) (h : g.io id = some (b, N, T)) : RD P g (.mark id) { target := .collected b, args := #[] }
  | call (f cap args vc va) (hc : RL P g cap vc) (ha : RL P g args va) : RD P g (.call f cap args) { target := .fn f vc, args := va }
def RDs (P : Program) (g : Gh) : List DA → List Deferred → Prop
  | [], [] => True
  | d :: ds, x :: xs => RD P g d x ∧ RDs P g ds xs
  | _, _ => False
omit [Glob] in
theorem RL.mono {P : Program} {g g' : Gh} {l : List PV} {a : Array Value} (h : RL P g l a) (hg : g.le g') : RL P g' l a := ⟨h.1, fun j hj => (h.2 j hj).mono hg⟩
omit [Glob] in
theorem RD.mono {P : Program} {g g' : Gh} {d : DA} {x : Deferred} (h : RD P g d x) (hg : g.le g') : RD P g' d x := by
  cases h with
  | mark id b N T h => exact .mark id b N T (hg.io _ _ h)
  | call f cap args vc va hc ha => exact .call f cap args vc va (hc.mono hg) (ha.mono hg)
omit [Glob] in
theorem RDs.mono {P : Program} {g g' : Gh} (hg : g.le g') : ∀ {ds : List DA} {xs : List Deferred}, RDs P g ds xs → RDs P g' ds xs
  | [], [], _ => trivial
  | _ :: _, _ :: _, h => ⟨h.1.mono hg, RDs.mono hg h.2⟩
structure St where
  env : Env
  σ : Store
  df : List DA
inductive ExitA where
  | normal
  | exit (id : Nat)
  | goto (l : Nat)
  | ret
  | panic (v : PV)
def RExit (P : Program) (g : Gh) : ExitA → Exit → Prop
  | .normal, .normal => True
  | .exit i, .exit j => i = j
  | .goto i, .goto j => i = j
  | .ret, .ret => True
  | .panic v, .panic ch => ∃ u, ch = [{ v := u, recovered := false }] ∧ R P g v u
  | _, _ => False
def REnv (P : Program) (g : Gh) (N : Nat) (env : Env) (tmps : Array Value) : Prop := tmps.size = N ∧ (∀ t p, get env t = some p → R P g p (tmps.getD t undef)) ∧ GlobOk P g
structure RA (P : Program) (g : Gh) (N : Nat) (st : St) (a : Act) : Prop where
  env : REnv P g N st.env a.tmps
  df : RDs P g st.df a.defers
theorem REnv.mono {P : Program} {g g' : Gh} {N : Nat} {env : Env} {t : Array Value} (h : REnv P g N env t) (hg : g.le g') : REnv P g' N env t := ⟨h.1, fun t p e => (h.2.1 t p e).mono hg, h.2.2.mono hg⟩
theorem RA.mono {P : Program} {g g' : Gh} {N : Nat} {st : St} {a : Act} (h : RA P g N st a) (hg : g.le g') : RA P g' N st a := ⟨h.env.mono hg, h.df.mono hg⟩
def Fe (r : Option Nat) : Fence := { fn := fun _ => True, depth := none, alive := false, round := r }
omit [Glob] in
theorem Fe_none : Fe none = Fence.wide := rfl
omit [Glob] in
theorem Fe_some (l : Nat) : Fe (some l) = Fence.wide.inRound l := rfl
def post (P : Program) (N : Nat) (g : Gh) (w : World) (Q : ExitA → St → Prop) : Exit → Act → World → Prop :=
  fun e a' w' => ∃ g' ea st', g.le g' ∧ RExit P g' ea e ∧ RA P g' N st' a' ∧ Inv P g' st'.σ w' ∧ Frame w w' ∧ Q ea st'
def wpA (P : Program) (r : Option Nat) (N : Nat) (c : Code) (st : St) (Q : ExitA → St → Prop) : Prop :=
  ∀ g w a, RA P g N st a → Inv P g st.σ w → c.wpIn (Fe r) 0 P (post P N g w Q) a w
section
variable {P : Program} {r : Option Nat} {N : Nat}
theorem post_mono {g : Gh} {w : World} {Q Q' : ExitA → St → Prop} (h : ∀ e s, Q e s → Q' e s) (e a' w') : post P N g w Q e a' w' → post P N g w Q' e a' w' :=
  fun ⟨g', ea, st', h1, h2, h3, h4, h5, h6⟩ => ⟨g', ea, st', h1, h2, h3, h4, h5, h _ _ h6⟩
theorem wpA_mono {c : Code} {st : St} {Q Q' : ExitA → St → Prop} (h : wpA P r N c st Q) (hq : ∀ e s, Q e s → Q' e s) : wpA P r N c st Q' :=
  fun g w a ha hi => wpIn_mono (h g w a ha hi) fun e a w => post_mono hq e a w
theorem post_here {g : Gh} {w : World} {Q : ExitA → St → Prop} {e : Exit} {ea : ExitA} {a : Act} {st : St} (ha : RA P g N st a) (hi : Inv P g st.σ w) (he : RExit P g ea e) (h : Q ea st) : post P N g w Q e a w :=
  ⟨g, ea, st, .refl g, he, ha, hi, .refl w, h⟩
theorem post_later {g g' : Gh} {w w' : World} {Q : ExitA → St → Prop} (hg : g.le g') (hw : Frame w w') (e : Exit) (a'' : Act) (w'' : World) : post P N g' w' Q e a'' w'' → post P N g w Q e a'' w'' :=
  fun ⟨g2, ea, st', h1, h2, h3, h4, h5, h6⟩ => ⟨g2, ea, st', hg.trans h1, h2, h3, h4, hw.trans h5, h6⟩
def ExitA.then (K : St → Prop) (Q : ExitA → St → Prop) : ExitA → St → Prop
  | .normal, s => K s
  | e, s => Q e s
theorem wpA_skip {st : St} {Q : ExitA → St → Prop} (h : Q .normal st) : wpA P r N .skip st Q := fun _ _ _ ha hi => wpIn_skip (post_here (ea := .normal) ha hi trivial h)
theorem wpA_exit {id : Nat} {st : St} {Q : ExitA → St → Prop} (h : Q (.exit id) st) : wpA P r N (.exit id) st Q := fun _ _ _ ha hi => wpIn_exit (post_here (ea := .exit id) ha hi rfl h)
theorem wpA_ret {st : St} {Q : ExitA → St → Prop} (h : Q .ret st) : wpA P r N .ret st Q := fun _ _ _ ha hi => wpIn_ret (post_here (ea := .ret) ha hi trivial h)
omit [Glob] in
theorem RExit_normal {g : Gh} {ea : ExitA} : RExit P g ea .normal → ea = .normal := by cases ea <;> simp [RExit]
theorem wpA_seq {x y : Code} {st : St} {Q : ExitA → St → Prop} (h : wpA P r N x st (ExitA.then (fun s => wpA P r N y s Q) Q)) : wpA P r N (.seq x y) st Q := by
  intro g w a ha hi
  refine wpIn_seq (wpIn_mono (h g w a ha hi) ?_)
  rintro e a' w' ⟨g', ea, st', h1, h2, h3, h4, h5, h6⟩
  cases e with
  | normal =>
    obtain rfl := RExit_normal h2
    exact wpIn_mono (h6 g' w' a' h3 h4) (post_later h1 h5)
  | _ =>
    refine ⟨g', ea, st', h1, h2, h3, h4, h5, ?_⟩
    cases ea <;> first | exact h6 | (simp [RExit] at h2)
theorem wpA_block {id : Nat} {c : Code} {st : St} {Q : ExitA → St → Prop}
    (h : wpA P r N c st (fun e s => match e with | .exit i => if i = id then Q .normal s else Q (.exit i) s | e => Q e s)) : wpA P r N (.block id c) st Q := by
  intro g w a ha hi
  refine wpIn_block (wpIn_mono (h g w a ha hi) ?_)
  rintro e a' w' ⟨g', ea, st', h1, h2, h3, h4, h5, h6⟩
  cases e with
  | exit i =>
    cases ea with
    | exit j =>
      simp only [RExit] at h2
      subst h2
      simp only [Exit.inBlock]
      simp only at h6
      split
      · rename_i hid; rw [if_pos hid] at h6; exact ⟨g', .normal, st', h1, trivial, h3, h4, h5, h6⟩
      · rename_i hid; rw [if_neg hid] at h6; exact ⟨g', .exit j, st', h1, rfl, h3, h4, h5, h6⟩
    | _ => simp [RExit] at h2
  | _ =>
    refine ⟨g', ea, st', h1, h2, h3, h4, h5, ?_⟩
    cases ea <;> first | exact h6 | (simp [RExit] at h2)
theorem wpA_loop {c : Code} {st : St} {Q : ExitA → St → Prop} (I : Nat → St → Prop) (n₀ : Nat) (h₀ : I n₀ st)
    (round : ∀ n s, I n s → wpA P r N c s (ExitA.then (fun s' => ∃ n', n' < n ∧ I n' s') Q)) : wpA P r N (.loop c) st Q := by
  intro g w a ha hi
  let J : Nat → Act → World → Prop := fun n a' w' => ∃ g' st', g.le g' ∧ RA P g' N st' a' ∧ Inv P g' st'.σ w' ∧ Frame w w' ∧ I n st'
  refine wpIn_loop (fun a w => ∃ n, J n a w) (fun a w => leastOf (fun n => J n a w)) ⟨n₀, g, st, .refl g, ha, hi, .refl w, h₀⟩ ?_
  intro a' w' hI
  obtain ⟨g', st', h1, h2, h3, h4, h5⟩ := (leastOf_spec hI).1
  refine wpIn_mono (round _ st' h5 g' w' a' h2 h3) ?_
  rintro e a'' w'' ⟨g2, ea, s2, k1, k2, k3, k4, k5, k6⟩
  cases e with
  | normal =>
    obtain rfl := RExit_normal k2
    obtain ⟨n', hlt, hI'⟩ := k6
    have hJ : J n' a'' w'' := ⟨g2, s2, h1.trans k1, k3, k4, h4.trans k5, hI'⟩
    exact ⟨⟨n', hJ⟩, Nat.lt_of_le_of_lt ((leastOf_spec ⟨n', hJ⟩).2 n' hJ) hlt⟩
  | _ =>
    refine ⟨g2, ea, s2, h1.trans k1, k2, k3, k4, h4.trans k5, ?_⟩
    cases ea <;> first | exact k6 | (simp [RExit] at k2)
structure Weak (s s' : St) : Prop where
  env : ∀ t p, get s'.env t = some p → p = .dead ∨ get s.env t = some p
  f : ∀ i o, s'.σ.f i = some o → s.σ.f i = some o
  fr : ∀ i, s'.σ.fr i → s.σ.fr i
  df : s'.df = s.df
theorem Inv.weak {g : Gh} {σ σ' : Store} {w : World} (h : Inv P g σ w) (hf : ∀ i o, σ'.f i = some o → σ.f i = some o) (hr : ∀ i, σ'.fr i → σ.fr i) : Inv P g σ' w :=
  ⟨h.hH, fun i o e => h.obj i o (hf i o e), fun i j o o' e e' a b => h.inj i j o o' e e' (hf _ _ a) (hf _ _ b), fun i o e a => h.dis i o e (hf _ _ a), fun i hi => h.fr i (hr i hi), h.gl⟩
theorem RA.weak {g : Gh} {s s' : St} {a : Act} (h : RA P g N s a) (k : Weak s s') : RA P g N s' a :=
  ⟨⟨h.env.1, fun t p e => by
    rcases k.env t p e with rfl | e'
    · exact .dead _
    · exact h.env.2.1 t p e', h.env.2.2⟩, by rw [k.df]; exact h.df⟩
theorem wpA_weak {c : Code} {s s' : St} {Q : ExitA → St → Prop} (k : Weak s s') (h : wpA P r N c s' Q) : wpA P r N c s Q :=
  fun g w a ha hi => h g w a (ha.weak k) (hi.weak k.f k.fr)
end
mutual
def ofConst : Value → Option PV
  | .bool b => some (.bool b)
  | .int k n => some (.int k n)
  | .string s => some (.str s)
  | .pointer none => some .nilp
  | .slice none 0 0 => some .emp
  | .map none => some .nilm
  | .nilFunc => some .nilfn
  | .nilIface => some .nilif
  | .func f ⟨[]⟩ ⟨[]⟩ => some (.fn f [] [])
  | .agg ⟨l⟩ => (ofConsts l).map .agg
  | _ => none
def ofConsts : List Value → Option (List PV)
  | [] => some []
  | v :: r => match ofConst v, ofConsts r with
    | some p, some q => some (p :: q)
    | _, _ => none
end
def ev (env : Env) : Operand → Option PV
  | .tmp t => get env t
  | .const v => ofConst v
  | .func f => some (.fn (.func f) [] [])
  | .global i => (Glob.tab i).map .vptr
omit [Glob] in
theorem R_consts_aux {P : Program} {g : Gh} : (l : List Value) → (q : List PV) → (∀ v ∈ l, ∀ p, ofConst v = some p → R P g p v) → ofConsts l = some q → l.length = q.length ∧ ∀ j (hj : j < q.length), R P g q[j] (l.getD j undef)
  | [], q, _, h => by simp [ofConsts] at h; subst h; simp
  | v :: r, q, hv, h => by
    simp only [ofConsts] at h
    split at h
    · rename_i p q' hp hq
      injection h with h
      subst h
      obtain ⟨h1, h2⟩ := R_consts_aux r q' (fun u hu => hv u (by simp [hu])) hq
      refine ⟨by simp [h1], fun j hj => ?_⟩
      cases j with
      | zero => exact hv v (by simp) p hp
      | succ j => simpa using h2 j (by simpa using hj)
    · cases h
omit [Glob] in
theorem R_const {P : Program} {g : Gh} : (v : Value) → (p : PV) → ofConst v = some p → R P g p v
  | .bool b, p, h => by simp [ofConst] at h; subst h; exact .bool b
  | .int k n, p, h => by simp [ofConst] at h; subst h; exact .int k n
  | .string s, p, h => by simp [ofConst] at h; subst h; exact .str s
  | .pointer none, p, h => by simp [ofConst] at h; subst h; exact .nilp
  | .pointer (some a), p, h => by simp [ofConst] at h
  | .slice a n c, p, h => by
    cases a with
    | some a => simp [ofConst] at h
    | none =>
      cases n with
      | succ n => simp [ofConst] at h
      | zero =>
        cases c with
        | succ c => simp [ofConst] at h
        | zero => simp [ofConst] at h; subst h; exact .emp none
  | .map none, p, h => by simp [ofConst] at h; subst h; exact .nilm
  | .map (some _), p, h => by simp [ofConst] at h
  | .nilFunc, p, h => by simp [ofConst] at h; subst h; exact .nilfn
  | .nilIface, p, h => by simp [ofConst] at h; subst h; exact .nilif
  | .func f ⟨a⟩ ⟨c⟩, p, h => by
    cases a with
    | cons x y => simp [ofConst] at h
    | nil =>
      cases c with
      | cons x y => simp [ofConst] at h
      | nil => simp [ofConst] at h; subst h; exact .fn f [] [] #[] #[] rfl rfl (fun j hj => by simp at hj) (fun j hj => by simp at hj)
  | .agg ⟨l⟩, p, h => by
    simp only [ofConst, Option.map_eq_some_iff] at h
    obtain ⟨q, hq, rfl⟩ := h
    obtain ⟨h1, h2⟩ := R_consts_aux l q (fun v hv p hp => R_const v p hp) hq
    exact .agg q ⟨l⟩ (by simpa using h1) (fun j hj => by simpa using h2 j hj)
  | .float _ _, p, h => by simp [ofConst] at h
  | .complex _ _ _, p, h => by simp [ofConst] at h
  | .chan _, p, h => by simp [ofConst] at h
  | .iface _ _, p, h => by simp [ofConst] at h
  | .tuple _, p, h => by simp [ofConst] at h
termination_by v => sizeOf v
theorem R_ev {P : Program} {g : Gh} {N : Nat} {st : St} {a : Act} (h : RA P g N st a) {x : Operand} {p : PV} (hx : ev st.env x = some p) : R P g p (a.eval x) := by
  cases x with
  | tmp t => exact h.env.2.1 t p hx
  | const v => exact R_const v p hx
  | func f => simp only [ev, Option.some.injEq] at hx; subst hx; exact .fn _ [] [] #[] #[] rfl rfl (fun j hj => by simp at hj) (fun j hj => by simp at hj)
  | global i =>
    simp only [ev, Option.map_eq_some_iff] at hx
    obtain ⟨cs, h1, rfl⟩ := hx
    exact (h.env.2.2 i cs h1).1
section
variable {P : Program} {r : Option Nat} {N : Nat}
theorem wpA_cond {c : Operand} {x y : Code} {st : St} {Q : ExitA → St → Prop} {b : Bool} (hc : ev st.env c = some (.bool b)) (h : wpA P r N (if b then x else y) st Q) : wpA P r N (.cond c x y) st Q := by
  intro g w a ha hi
  have hr := R_ev ha hc
  generalize hv : a.eval c = v at hr
  cases hr
  exact wpIn_cond hv (h g w a ha hi)
end
end Sg
namespace Sg
open Go
set_option linter.unusedSectionVars false
variable [Glob]
def dstOk (N : Nat) : Option Nat → Bool
  | none => true
  | some d => d < N
section
variable {P : Program} {r : Option Nat} {N : Nat}
theorem REnv.put {g : Gh} {env : Env} {t : Array Value} (h : REnv P g N env t) {d : Option Nat} (hd : dstOk N d = true) {p : PV} {v : Value} (hp : R P g p v) :
    REnv P g N (put env d p) (match d with | some d => t.setIfInBounds d v | none => t) := by
  cases d with
  | none => exact h
  | some d =>
    simp only [dstOk, decide_eq_true_eq] at hd
    refine ⟨by simpa using h.1, fun u q hq => ?_, h.2.2⟩
    simp only [Sg.put, get] at hq
    simp only [Array.getD_eq_getD_getElem?, Array.getElem?_setIfInBounds]
    split at hq
    · rename_i e; subst e; injection hq with hq; subst hq
      rw [if_pos rfl, if_pos (by rw [h.1]; exact hd)]; exact hp
    · rename_i e
      rw [if_neg e]
      have := h.2.1 u q hq
      simpa [Array.getD_eq_getD_getElem?] using this
theorem RA.put {g : Gh} {st : St} {a : Act} (h : RA P g N st a) {d : Option Nat} (hd : dstOk N d = true) {p : PV} {v : Value} (hp : R P g p v) :
    RA P g N { st with env := put st.env d p } (a.put d v) := by
  refine ⟨?_, ?_⟩
  · have := h.env.put hd hp
    cases d <;> exact this
  · cases d <;> exact h.df
def OpA (P : Program) (r : Option Nat) (N : Nat) (o : Oper) (st : St) (K : St → Prop) (X : PV → St → Prop) : Prop :=
  ∀ g w a, RA P g N st a → Inv P g st.σ w → ∀ (next : Act → World → Prop) (Q' : Exit → Act → World → Prop),
    (∀ g' st' a' w', g.le g' → RA P g' N st' a' → Inv P g' st'.σ w' → Frame w w' → K st' → next a' w') →
    (∀ g' st' a' w' v u, g.le g' → RA P g' N st' a' → Inv P g' st'.σ w' → Frame w w' → R P g' v u → X v st' → Q' (.panic [{ v := u, recovered := false }]) a' w') →
    o.wpIn (Fe r) 0 P a w next Q'
def OpsA (P : Program) (r : Option Nat) (N : Nat) (ops : Array Oper) (l : List Nat) (st : St) (Q : ExitA → St → Prop) : Prop :=
  ∀ g0 w0 g w a, g0.le g → Frame w0 w → RA P g N st a → Inv P g st.σ w → wpOpsIn (Fe r) 0 P ops (post P N g0 w0 Q) l a w
theorem OpA.mono {o : Oper} {st : St} {K K' : St → Prop} {X X' : PV → St → Prop} (h : OpA P r N o st K X) (hk : ∀ s, K s → K' s) (hx : ∀ v s, X v s → X' v s) : OpA P r N o st K' X' :=
  fun g w a ha hi next Q' h1 h2 => h g w a ha hi next Q' (fun g' st' a' w' a1 a2 a3 a4 a5 => h1 g' st' a' w' a1 a2 a3 a4 (hk _ a5)) (fun g' st' a' w' v u a1 a2 a3 a4 a5 a6 => h2 g' st' a' w' v u a1 a2 a3 a4 a5 (hx _ _ a6))
def wantedA (ops : Array Oper) (env : Env) (o : Oper) : Option Bool :=
  match o.guard with
  | none => some true
  | some (j, want) => match (ops[j]?).bind (·.dst) with
    | none => none
    | some d => match get env d with
      | some (.bool b) => some (b == want)
      | some (.tuple []) => some false
      | _ => none
theorem wanted_of {g : Gh} {st : St} {a : Act} (ha : RA P g N st a) {ops : Array Oper} {o : Oper} {b : Bool} (h : wantedA ops st.env o = some b) : Region.wanted o (yielded ops a.tmps) = b := by
  unfold wantedA at h
  unfold Region.wanted
  cases hg : o.guard with
  | none => simp only [hg, Option.some.injEq] at h; subst h; rfl
  | some jw =>
    obtain ⟨j, want⟩ := jw
    simp only [hg] at h ⊢
    cases hd : (ops[j]?).bind (·.dst) with
    | none => simp [hd] at h
    | some d =>
      simp only [hd] at h
      have key : ∀ (x : Option Value), a.tmps[d]? = x → yielded ops a.tmps j = (match x with | some (.bool b) => some b | _ => none) := by
        intro x hx; unfold yielded; simp only [hd, Option.bind_some, hx]; rfl
      have hE := ha.env.2.1 d
      split at h
      · rename_i c hc
        injection h with h
        have hr := hE _ hc
        have hx : a.tmps[d]? = some (.bool c) := by
          rw [Array.getD_eq_getD_getElem?] at hr
          cases ht : a.tmps[d]? with
          | none => rw [ht] at hr; simp only [Option.getD_none, undef] at hr; cases hr
          | some v => rw [ht] at hr; simp only [Option.getD_some] at hr; cases hr; rfl
        rw [key _ hx, ← h]
        cases c <;> cases want <;> rfl
      · rename_i hc
        injection h with h
        have hr := hE _ hc
        have hx : ∀ c, a.tmps[d]? ≠ some (.bool c) := by
          intro c ht
          rw [Array.getD_eq_getD_getElem?, ht] at hr
          cases hr
        rw [← h]
        cases ht : a.tmps[d]? with
        | none => rw [key _ ht]; rfl
        | some v => cases v <;> first | (rw [key _ ht]; rfl) | exact absurd ht (hx _)
      · cases h
omit [Glob] in
theorem R_undef (g : Gh) : R P g (.tuple []) undef := .tuple [] #[] rfl (fun j hj => by simp at hj)
theorem OpsA_nil {ops : Array Oper} {st : St} {Q : ExitA → St → Prop} (h : Q .normal st) : OpsA P r N ops [] st Q :=
  fun _ _ _ _ _ hg hw ha hi => post_later hg hw _ _ _ (post_here (ea := .normal) ha hi trivial h)
theorem OpsA_cons {ops : Array Oper} {i : Nat} {l : List Nat} {st : St} {Q : ExitA → St → Prop} {o : Oper} (ho : ops[i]? = some o) (hw : wantedA ops st.env o = some true)
    (h : OpA P r N o st (fun s => OpsA P r N ops l s Q) (fun v s => Q (.panic v) s)) : OpsA P r N ops (i :: l) st Q := by
  intro g0 w0 g w a hg hf ha hi
  simp only [wpOpsIn, ho, wanted_of ha hw, if_true]
  refine h g w a ha hi _ _ ?_ ?_
  · intro g' st' a' w' h1 h2 h3 h4 h5
    exact h5 g0 w0 g' w' a' (hg.trans h1) (hf.trans h4) h2 h3
  · intro g' st' a' w' v u h1 h2 h3 h4 h5 h6
    exact ⟨g', .panic v, st', hg.trans h1, ⟨u, rfl, h5⟩, h2, h3, hf.trans h4, h6⟩
theorem OpsA_skip {ops : Array Oper} {i : Nat} {l : List Nat} {st : St} {Q : ExitA → St → Prop} {o : Oper} (ho : ops[i]? = some o) (hw : wantedA ops st.env o = some false) (hd : dstOk N o.dst = true)
    (h : OpsA P r N ops l { st with env := put st.env o.dst (.tuple []) } Q) : OpsA P r N ops (i :: l) st Q := by
  intro g0 w0 g w a hg hf ha hi
  simp only [wpOpsIn, ho, wanted_of ha hw, Bool.false_eq_true, if_false]
  exact ⟨fun _ _ => trivial, h g0 w0 g w _ hg hf (ha.put hd (R_undef g)) hi⟩
theorem wpA_region {id : Nat} {ops : Array Oper} {st : St} {Q : ExitA → St → Prop} (h : OpsA P r N ops (List.range ops.size) st Q) : wpA P r N (.region id ops false) st Q :=
  fun g w a ha hi => wpIn_region (h g w g w a (.refl g) (.refl w) ha hi)
theorem OpA_run {o : Oper} {st : St} {K : St → Prop} {X : PV → St → Prop} (hdef : ∀ c, o.op ≠ .defer c) (p : PV) (σ' : Store) (hd : dstOk N o.dst = true)
    (hrun : ∀ g w a, RA P g N st a → Inv P g st.σ w → ∃ g' v w', (execOp a.eval o).run P w = .ok (.value v) w' ∧ g.le g' ∧ R P g' p v ∧ Inv P g' σ' w' ∧ Frame w w')
    (h : K { st with env := put st.env o.dst p, σ := σ' }) : OpA P r N o st K X := by
  intro g w a ha hi next Q' h1 h2
  obtain ⟨g', v, w', hr, hg, hp, hi', hf⟩ := hrun g w a ha hi
  refine ⟨fun _ _ => trivial, ?_⟩
  rw [Oper.semAt_eq _ _ _ hdef, hr, Oper.uponIn_value]
  refine h1 g' _ _ w' hg ?_ hi' hf h
  have := (ha.mono hg).put hd hp
  exact ⟨this.env, this.df⟩
end
def intOpA (op : BinOp) (k : IntKind) (x y : Int) : Option PV :=
  match op with
  | .add => some (.int k (k.wrap (x + y)))
  | .sub => some (.int k (k.wrap (x - y)))
  | .mul => some (.int k (k.wrap (x * y)))
  | .quo => if y = 0 then none else some (.int k (k.wrap (x.tdiv y)))
  | .rem => if y = 0 then none else some (.int k (x.tmod y))
  | .and => some (.int k (k.wrap (BitVec.ofInt k.bits x &&& BitVec.ofInt k.bits y).toNat))
  | .or => some (.int k (k.wrap (BitVec.ofInt k.bits x ||| BitVec.ofInt k.bits y).toNat))
  | .xor => some (.int k (k.wrap (BitVec.ofInt k.bits x ^^^ BitVec.ofInt k.bits y).toNat))
  | .andNot => some (.int k (k.wrap (BitVec.ofInt k.bits x &&& ~~~BitVec.ofInt k.bits y).toNat))
  | .eql => some (.bool (x == y))
  | .neq => some (.bool (x != y))
  | .lss => some (.bool (x < y))
  | .leq => some (.bool (x ≤ y))
  | .gtr => some (.bool (x > y))
  | .geq => some (.bool (x ≥ y))
  | _ => none
def shiftA (op : BinOp) (k : IntKind) (x y : Int) : Option PV :=
  if y < 0 then none else
  match op with
  | .shl => some (.int k (k.wrap (x * 2 ^ (min y.toNat k.bits))))
  | .shr => some (.int k (x.fdiv (2 ^ (min y.toNat k.bits))))
  | _ => none
def strOpA (op : BinOp) (x y : ByteArray) : Option PV :=
  match op with
  | .add => if x.size + y.size ≤ 9223372036854775807 then some (.str (x ++ y)) else none
  | .eql => some (.bool (x.toList == y.toList))
  | .neq => some (.bool !(x.toList == y.toList))
  | .lss => some (.bool (Op.bytesLess x.toList y.toList))
  | .leq => some (.bool (Op.bytesLess x.toList y.toList || x.toList == y.toList))
  | .gtr => some (.bool !(Op.bytesLess x.toList y.toList || x.toList == y.toList))
  | .geq => some (.bool !(Op.bytesLess x.toList y.toList))
  | _ => none
def isAggT (P : Program) (t : TypeId) : Option Bool :=
  match P.underlying t with
  | some (.struct _) | some (.array _ _) => some true
  | some _ => some false
  | none => none
def partA (P : Program) (t : TypeId) (cs : List PV) (off : Nat) : Option PV :=
  match isAggT P t, P.info? t with
  | some true, some i => if off + i.size ≤ cs.length then some (.agg ((cs.drop off).take i.size)) else none
  | some false, some _ => cs[off]?
  | _, _ => none
def kpT (P : Program) (t : TypeId) : Bool :=
  match P.underlying t, P.info? t with
  | some (.pointer te), some i => i.comparable && (P.info? te).isSome
  | _, _ => false
mutual
def eqA (P : Program) : Nat → TypeId → PV → PV → Option Bool
  | 0, _, _, _ => none
  | d + 1, t, x, y =>
    match P.underlying t, x, y with
    | some (.int _), .int k a, .int k' b => if k = k' then some (a == b) else none
    | some .bool, .bool a, .bool b => some (a == b)
    | some .string, .str a, .str b => some (a.toList == b.toList)
    | some (.struct fs), .agg xs, .agg ys => if P.stoodInHeld t then none else eqFs P d xs ys fs.toList
    | some (.interface _), .nilif, .iface _ _ => some false
    | some (.interface _), .iface _ _, .nilif => some false
    | some (.pointer _), .nilp, .nilp => some true
    | some (.pointer _), .nilp, .ptr _ _ => some false
    | some (.pointer _), .ptr _ _, .nilp => some false
    | some (.interface _), .iface t1 (.kptr b o), .iface t2 (.kptr b' o') => if d ≠ 0 ∧ t1 = t2 ∧ b = b' ∧ o = o' ∧ kpT P t1 = true then some true else none
    | _, _, _ => none
def eqFs (P : Program) (d : Nat) (xs ys : List PV) : List Field → Option Bool
  | [] => some true
  | f :: fs =>
    if f.name ≠ "_" then
      match partA P f.type xs f.offset, partA P f.type ys f.offset with
      | some a, some b => match eqA P d f.type a b with
        | some true => eqFs P d xs ys fs
        | some false => some false
        | none => none
      | _, _ => none
    else eqFs P d xs ys fs
end
end Sg
namespace Sg
open Go
set_option linter.unusedSectionVars false
variable [Glob]
section
variable {P : Program}
def fieldInfo (P : Program) (s f : Nat) : Option (Nat × Nat) :=
  match P.underlying s with
  | some (.struct fs) => match fs[f]? with
    | some fl => match P.info? fl.type with
      | some i => if i.size = 0 then none else some (fl.offset, fl.type)
      | none => none
    | none => none
  | _ => none
def takeVar (P : Program) (t : TypeId) (cs : List PV) : Option PV :=
  match isAggT P t, P.info? t with
  | some true, some i => if i.size ≤ cs.length then some (.agg (cs.take i.size)) else none
  | some false, some _ => cs[0]?
  | _, _ => none
def loadA (P : Program) (σ : Store) (t : TypeId) : PV → Option PV
  | .ptr id off => match σ.f id with
    | some (.cells _ cs) => takeVar P t (cs.drop off)
    | _ => none
  | .vptr cs => takeVar P t cs
  | _ => none
def fieldAddrA (P : Program) (s f : Nat) : PV → Option PV
  | .ptr id off => (fieldInfo P s f).map fun x => .ptr id (off + x.1)
  | .vptr cs => match fieldInfo P s f with
    | some x => if x.1 ≤ cs.length then some (.vptr (cs.drop x.1)) else none
    | none => none
  | _ => none
def indexAddrA (P : Program) (t : TypeId) (x : PV) (i : Int) : Option PV :=
  match P.underlying t, x with
  | some (.slice e), .rows e' r => if e = e' ∧ 0 ≤ i ∧ i < r.length then some (.vptr (r.getD i.toNat [])) else none
  | some (.slice e), .sl e' id off len => if e = e' ∧ 0 ≤ i ∧ i < len ∧ (P.info? e).isSome then some (.ptr id (off + i.toNat * P.cellsOf e)) else none
  | some (.array n e), .ptr id off => if 0 ≤ i ∧ i < n ∧ (P.info? e).isSome then some (.ptr id (off + i.toNat * P.cellsOf e)) else none
  | some (.array n e), .vptr cs => if 0 ≤ i ∧ i < n ∧ (P.info? e).isSome ∧ i.toNat * P.cellsOf e ≤ cs.length then some (.vptr (cs.drop (i.toNat * P.cellsOf e))) else none
  | _, _ => none
def indexA (P : Program) (t : TypeId) (x : PV) (i : Int) : Option PV :=
  match P.underlying t, x with
  | some .string, .str s => if 0 ≤ i then match s[i.toNat]? with
      | some b => some (.int .u8 b.toNat)
      | none => none
    else none
  | some (.array n e), .agg cs => if 0 ≤ i ∧ i < n ∧ (P.info? e).isSome then partA P e cs (i.toNat * P.cellsOf e) else none
  | _, _ => none
def fieldA (P : Program) (t : TypeId) (f : Nat) (x : PV) : Option PV :=
  match P.underlying t, x with
  | some (.struct fs), .agg cs => match fs[f]? with
    | some fl => partA P fl.type cs fl.offset
    | none => none
  | _, _ => none
def lenA (P : Program) (σ : Store) (t : TypeId) (x : PV) : Option PV :=
  match P.underlying t, x with
  | some .string, .str s => some (.int .i64 s.size)
  | some (.array n _), _ => some (.int .i64 n)
  | some (.slice _), .rows _ r => some (.int .i64 r.length)
  | some (.slice _), .sl _ _ _ n => some (.int .i64 n)
  | some (.slice _), .emp => some (.int .i64 0)
  | some (.map _ _), .nilm => some (.int .i64 0)
  | some (.map _ _), .map id => match σ.f id with
    | some (.map es) => some (.int .i64 es.length)
    | _ => none
  | _, _ => none
def boundA (y : Nat) : Option PV → Option Nat → Option Nat
  | none, d => d
  | some (.int _ i), _ => if 0 ≤ i ∧ i ≤ y then some i.toNat else none
  | _, _ => none
def objSize (σ : Store) (id : Nat) : Nat :=
  match σ.f id with
  | some (.cells _ cs) => cs.length
  | _ => 0
def sliceA (P : Program) (σ : Store) (t : TypeId) (x : PV) (lo hi : Option PV) : Option PV :=
  match P.underlying t, x with
  | some .string, .str s => match boundA s.size hi (some s.size) with
    | some h => match boundA h lo (some 0) with
      | some l => some (.str (s.extract l h))
      | none => none
    | none => none
  | some (.slice e), .rows e' r => match boundA r.length hi (some r.length) with
    | some h => match boundA h lo (some 0) with
      | some l => if e = e' ∧ (P.info? e).isSome then some (.rows e ((r.take h).drop l)) else none
      | none => none
    | none => none
  | some (.slice e), .sl e' id off n => match boundA n hi (some n) with
    | some h => match boundA h lo (some 0) with
      | some l => if e = e' ∧ (P.info? e).isSome then (if l = 0 ∨ l < h then some (.sl e id (off + l * P.cellsOf e) (h - l)) else some (.rows e [])) else none
      | none => none
    | none => none
  | some (.slice e), .emp => match boundA 0 hi (some 0) with
    | some h => match boundA h lo (some 0) with
      | some _ => if (P.info? e).isSome then some .emp else none
      | none => none
    | none => none
  | some (.array n e), .ptr id off => match boundA n hi (some n) with
    | some h => match boundA h lo (some 0) with
      | some l => if (P.info? e).isSome ∧ off + n * P.cellsOf e ≤ objSize σ id then (if l = 0 ∨ l < h then some (.sl e id (off + l * P.cellsOf e) (h - l)) else some (.rows e [])) else none
      | none => none
    | none => none
  | _, _ => none
variable {g : Gh} {w : World}
omit [Glob] in
theorem load_core {t : TypeId} {cs : List PV} {b off : Nat} {q : PV} (f : Nat → Value) (hc : ∀ j (hj : j < cs.length), w.cell? ⟨b, off + j, none⟩ = some (f j) ∧ R P g cs[j] (f j))
    (h : takeVar P t cs = some q) : ∃ u, (loadVar t ⟨b, off, none⟩).run P w = .ok u w ∧ R P g q u := by
  unfold takeVar at h
  split at h
  · rename_i i ha hi
    split at h
    · rename_i hle
      injection h with h
      subst h
      have hu : ∃ d, P.underlying t = some d ∧ d.isRow = true := by
        unfold isAggT at ha
        split at ha <;> first | exact ⟨_, by assumption, rfl⟩ | cases ha
      obtain ⟨d, hu, hd⟩ := hu
      have hlen : ((List.range i.size).map f).length = i.size := by simp
      refine ⟨_, run_loadVar_mid w b off t ((List.range i.size).map f) d ?_ hu hd (by simp [hi]), ?_⟩
      · intro j v hv
        obtain ⟨hj, hv⟩ := List.getElem?_eq_some_iff.1 hv
        simp at hj hv
        subst hv
        exact (hc j (by omega)).1
      · refine .agg _ _ (by simp; omega) fun j hj => ?_
        simp at hj
        have := (hc j (by omega)).2
        simpa [Array.getD_eq_getD_getElem?, List.getElem?_range (show j < i.size by omega)] using this
    · cases h
  · rename_i i ha hi
    have hu : ∃ d, P.underlying t = some d ∧ d.isRow = false := by
      unfold isAggT at ha
      split at ha
      · cases ha
      · cases ha
      · rename_i d h1 h2 hd
        refine ⟨d, hd, ?_⟩
        cases d <;> first | rfl | exact (h1 _ rfl).elim | exact (h2 _ _ rfl).elim
      · cases ha
    obtain ⟨d, hu, hd⟩ := hu
    have hj : 0 < cs.length := (List.getElem?_eq_some_iff.1 h).1
    obtain ⟨_, hq⟩ := List.getElem?_eq_some_iff.1 h
    obtain ⟨h1, h2⟩ := hc 0 hj
    refine ⟨f 0, ?_, hq ▸ h2⟩
    have hagg : (isAgg t).run P w = .ok false w := by
      unfold isAgg
      rw [Sem.run_bind, run_underlying hu w]
      cases d <;> simp_all
    simp only [Nat.add_zero] at h1
    simp [loadVar, Sem.run_bind, hagg, h1]
  · cases h
theorem cells_at {σ : Store} (hi : Inv P g σ w) {id : Nat} {T' : TypeId} {cs : List PV} (ho : σ.f id = some (.cells T' cs)) {b N : Nat} {T : TypeId} (hio : g.io id = some (b, N, T)) :
    T = T' ∧ ∃ arr : Array Value, arr.size = N ∧ (N = 0 ∨ w.heap[b]? = some (.cells arr T (0, 0))) ∧ cs.length ≤ arr.size ∧ ∀ j (hj : j < cs.length), R P g cs[j] (arr.getD j undef) ∧ cs[j].cell = true := by
  obtain ⟨b', arr, h1, h2, h3, h4⟩ := hi.obj _ _ ho
  rw [hio] at h1
  injection h1 with h1
  injection h1 with h1 h5
  injection h5 with h5 h6
  subst h1; subst h6
  exact ⟨rfl, arr, h5.symm, by rw [h5]; exact h2, h3, h4⟩
theorem loadA_ok {σ : Store} (hi : Inv P g σ w) {t : TypeId} {p q : PV} {v : Value} (hr : R P g p v) (h : loadA P σ t p = some q) : ∃ u, (Instr.loadAt t v).run P w = .ok u w ∧ R P g q u := by
  cases hr <;> simp only [loadA] at h <;> try cases h
  case ptr id off b N T hio =>
    split at h
    · rename_i T' cs ho
      obtain ⟨rfl, arr, rfl, hh, hle, hcs⟩ := cells_at hi ho hio
      have key : ∀ j (hj : j < (cs.drop off).length), w.cell? ⟨b, off + j, none⟩ = some (arr.getD (off + j) undef) ∧ R P g (cs.drop off)[j] (arr.getD (off + j) undef) := by
        intro j hj
        simp at hj
        have hh := hh.resolve_left (by omega)
        rw [cell_of_row w b (off + j) arr T (0, 0) hh]
        refine ⟨?_, ?_⟩
        · rw [Array.getD_eq_getD_getElem?, Array.getElem?_eq_getElem (by omega)]; rfl
        · have := (hcs (off + j) (by omega)).1
          simpa using this
      obtain ⟨u, h1, h2⟩ := load_core (P := P) (w := w) (g := g) (b := b) (off := off) (fun j => arr.getD (off + j) undef) key h
      exact ⟨u, by simpa [Instr.loadAt, Instr.sureAddr] using h1, h2⟩
    · cases h
  case vptr cs b off arr T fr hH hn hp hr =>
    have hh := hi.hH _ _ hH
    obtain ⟨u, h1, h2⟩ := load_core (P := P) (w := w) (g := g) (b := b) (off := off) (fun j => arr.getD (off + j) undef) (fun j hj => by
      rw [cell_of_row w b (off + j) arr T fr hh]
      exact ⟨by rw [Array.getD_eq_getD_getElem?, Array.getElem?_eq_getElem (by omega)]; rfl, hr j hj⟩) h
    exact ⟨u, by simpa [Instr.loadAt, Instr.sureAddr] using h1, h2⟩
omit [Glob] in
theorem fieldAddr_ok {s f : Nat} {p q : PV} {v : Value} (hr : R P g p v) (h : fieldAddrA P s f p = some q) : ∃ u, (Instr.fieldAt s v f).run P w = .ok u w ∧ R P g q u := by
  have hfi : ∃ x, fieldInfo P s f = some x := by
    cases p <;> simp only [fieldAddrA] at h <;> try cases h
    · simp only [Option.map_eq_some_iff] at h; obtain ⟨x, hx, _⟩ := h; exact ⟨x, hx⟩
    · split at h
      · exact ⟨_, by assumption⟩
      · cases h
  obtain ⟨⟨fo, ft⟩, hfi⟩ := hfi
  have key : ∀ (b off : Nat), (Instr.fieldAt s (.pointer (some ⟨b, off, none⟩)) f).run P w = .ok (.pointer (some ⟨b, off + fo, none⟩)) w := by
    intro b off
    unfold fieldInfo at hfi
    split at hfi
    · rename_i fs hs
      split at hfi
      · rename_i fl hfl
        split at hfi
        · rename_i i hi
          split at hfi
          · cases hfi
          · rename_i hne
            injection hfi with hfi
            injection hfi with h1 h2
            subst h1; subst h2
            simp [Instr.fieldAt, run_underlying hs, hfl, Instr.sureAddr, fieldPlace, Go.sizeOf, typeInfo, hi, hne, Addr.add_mid]
        · cases hfi
      · cases hfi
    · cases hfi
  cases hr <;> simp only [fieldAddrA, hfi] at h <;> try cases h
  case ptr id off b N T hio => exact ⟨_, key b off, .ptr id (off + fo) b N T hio⟩
  case vptr cs b off arr T fr hH hn hp hr =>
    split at h
    · rename_i hle
      injection h with h
      subst h
      refine ⟨_, key b off, .vptr _ b (off + fo) arr T fr hH (by simp; omega) ?_ fun j hj => ?_⟩
      · exact (pureL_iff _).2 fun x hx => (pureL_iff _).1 hp x (List.mem_of_mem_drop hx)
      · simp at hj
        have := hr (fo + j) (by omega)
        simpa [Nat.add_assoc] using this
    · cases h
omit [Glob] in
theorem run_asIntOf_int (k : IntKind) (n : Int) : (asIntOf (.int k n)).run P w = .ok (k, n) w := rfl
omit [Glob] in
theorem indexAddr_ok {t : TypeId} {p q : PV} {v : Value} {k : IntKind} {i : Int} (hr : R P g p v) (h : indexAddrA P t p i = some q) : ∃ u, (Instr.indexAt t v (.int k i)).run P w = .ok u w ∧ R P g q u := by
  unfold indexAddrA at h
  split at h
  · rename_i e e' r he
    split at h
    · rename_i hc
      obtain ⟨rfl, h0, h1⟩ := hc
      injection h with h
      subst h
      cases hr with
      | rows0 _ a cap => simp at h1; omega
      | rows _ _ b off cap arr T fr hH hes hcap hn hl hp hce hrr =>
        have hi : i.toNat < r.length := by omega
        cases hinf : P.info? e with
        | none => simp [Program.cellsOf, hinf] at hes
        | some inf =>
          have hcell : P.cellsOf e = inf.size := by simp [Program.cellsOf, hinf]
          have hg : r.getD i.toNat [] = r[i.toNat] := by simp [List.getD, hi]
          refine ⟨.pointer (some ⟨b, off + i.toNat * inf.size, none⟩), ?_, ?_⟩
          · simp [Instr.indexAt, run_asIntOf_int, run_underlying he, h0, h1, Go.sizeOf, typeInfo, hinf, Addr.add_mid]
          · rw [hg]
            have hlc := hl _ (List.getElem_mem hi)
            refine .vptr _ b _ arr T fr hH ?_ (hp _ (List.getElem_mem hi)) fun j hj => ?_
            · have : (i.toNat + 1) * P.cellsOf e ≤ r.length * P.cellsOf e := Nat.mul_le_mul_right _ hi
              rw [Nat.add_mul] at this
              rw [hlc, ← hcell]; omega
            · rw [← hcell]; exact hrr i.toNat j hi hj
    · cases h
  · rename_i e e' id off len he
    split at h
    · rename_i hc
      obtain ⟨rfl, h0, h1, hsome⟩ := hc
      injection h with h
      subst h
      obtain ⟨inf, hinf⟩ := Option.isSome_iff_exists.1 hsome
      have hcell : P.cellsOf e = inf.size := by simp [Program.cellsOf, hinf]
      cases hr with
      | sl _ _ _ _ cap b N T hio hlc hcc =>
        refine ⟨.pointer (some ⟨b, off + i.toNat * inf.size, none⟩), ?_, ?_⟩
        · simp [Instr.indexAt, run_asIntOf_int, run_underlying he, h0, h1, Go.sizeOf, typeInfo, hinf, Addr.add_mid]
        · rw [hcell]; exact .ptr _ _ _ _ _ hio
      | sl0 => simp at h1; omega
    · cases h
  · rename_i n e id off he
    split at h
    · rename_i hc
      obtain ⟨h0, h1, hsome⟩ := hc
      injection h with h
      subst h
      obtain ⟨inf, hinf⟩ := Option.isSome_iff_exists.1 hsome
      have hcell : P.cellsOf e = inf.size := by simp [Program.cellsOf, hinf]
      cases hr with
      | ptr _ _ b N T hio =>
        refine ⟨.pointer (some ⟨b, off + i.toNat * inf.size, none⟩), ?_, ?_⟩
        · simp [Instr.indexAt, run_asIntOf_int, run_underlying he, h0, h1, Go.sizeOf, typeInfo, hinf, Addr.add_mid, Instr.sureAddr]
        · rw [hcell]; exact .ptr _ _ _ _ _ hio
    · cases h
  · rename_i n e cs he
    split at h
    · rename_i hc
      obtain ⟨h0, h1, hsome, hle⟩ := hc
      injection h with h
      subst h
      obtain ⟨inf, hinf⟩ := Option.isSome_iff_exists.1 hsome
      have hcell : P.cellsOf e = inf.size := by simp [Program.cellsOf, hinf]
      rw [hcell] at hle ⊢
      cases hr with
      | vptr _ b off arr T fr hH hn hp hrr =>
        refine ⟨.pointer (some ⟨b, off + i.toNat * inf.size, none⟩), ?_, ?_⟩
        · simp [Instr.indexAt, run_asIntOf_int, run_underlying he, h0, h1, Go.sizeOf, typeInfo, hinf, Addr.add_mid, Instr.sureAddr]
        · refine .vptr _ b _ arr T fr hH (by simp; omega) ?_ fun j hj => ?_
          · exact (pureL_iff _).2 fun x hx => (pureL_iff _).1 hp x (List.mem_of_mem_drop hx)
          · simp at hj
            have := hrr (i.toNat * inf.size + j) (by omega)
            simpa [Nat.add_assoc] using this
    · cases h
  · cases h
omit [Glob] in
theorem isAgg_run {t : TypeId} {b : Bool} (h : isAggT P t = some b) : (isAgg t).run P w = .ok b w := by
  unfold isAggT at h
  unfold isAgg
  split at h
  · rename_i fs hu; injection h with h; subst h; rw [Sem.run_bind, run_underlying hu w]; rfl
  · rename_i n e hu; injection h with h; subst h; rw [Sem.run_bind, run_underlying hu w]; rfl
  · rename_i d h1 h2 hu
    injection h with h; subst h
    rw [Sem.run_bind, run_underlying hu w]
    cases d <;> first | rfl | exact (h1 _ rfl).elim | exact (h2 _ _ rfl).elim
  · cases h
omit [Glob] in
theorem part_ok {t : TypeId} {cs : List PV} {vs : Array Value} {off : Nat} {q : PV} (hl : vs.size = cs.length) (hr : ∀ j (hj : j < cs.length), R P g cs[j] (vs.getD j undef))
    (h : partA P t cs off = some q) : ∃ u, (part t vs off).run P w = .ok u w ∧ R P g q u := by
  have agg : ∀ i, isAggT P t = some true → P.info? t = some i → off + i.size ≤ cs.length → ∃ u, (part t vs off).run P w = .ok u w ∧ R P g (.agg ((cs.drop off).take i.size)) u := by
    intro i ha hi hle
    refine ⟨.agg (vs.extract off (off + i.size)), ?_, ?_⟩
    · simp [part, Sem.run_bind, isAgg_run ha, Go.sizeOf, typeInfo, hi]
    · refine .agg _ _ (by simp; omega) fun j hj => ?_
      simp at hj
      have := hr (off + j) (by omega)
      simp only [Array.getD_eq_getD_getElem?] at this ⊢
      rw [Array.getElem?_extract, if_pos (by omega)]
      simpa using this
  unfold partA at h
  split at h
  · rename_i i ha hi
    split at h
    · injection h with h; subst h
      exact agg i ha hi (by assumption)
    · cases h
  · rename_i i ha hi
    obtain ⟨hj, hq⟩ := List.getElem?_eq_some_iff.1 h
    have := hr off hj
    refine ⟨vs.getD off undef, ?_, hq ▸ this⟩
    have hv : vs[off]? = some (vs.getD off undef) := by
      have h1 : off < vs.size := by omega
      simp [Array.getD, h1]
    simp only [part, Sem.run_bind, isAgg_run ha, Result.andThen_ok, Bool.false_eq_true, if_false, hv, Sem.run_pure]
  · cases h
omit [Glob] in
theorem field_ok {t f : Nat} {p q : PV} {v : Value} (hr : R P g p v) (h : fieldA P t f p = some q) : ∃ u, (Instr.field t v f).run P w = .ok u w ∧ R P g q u := by
  unfold fieldA at h
  split at h
  · rename_i fs cs hu
    split at h
    · rename_i fl hfl
      cases hr with
      | agg _ vs hl hrr =>
        obtain ⟨u, h1, h2⟩ := part_ok (w := w) hl hrr h
        exact ⟨u, by simp [Instr.field, run_underlying hu, hfl, asAgg, h1], h2⟩
    · cases h
  · cases h
omit [Glob] in
theorem index_ok {t : TypeId} {p q : PV} {v : Value} {k : IntKind} {i : Int} (hr : R P g p v) (h : indexA P t p i = some q) : ∃ u, (Instr.index t v (.int k i)).run P w = .ok u w ∧ R P g q u := by
  unfold indexA at h
  split at h
  · rename_i s hu
    cases hr
    split at h
    · rename_i h0
      split at h
      · rename_i b hb
        injection h with h
        subst h
        exact ⟨_, by simp [Instr.index, run_asIntOf_int, run_underlying hu, h0, hb], .int _ _⟩
      · cases h
    · cases h
  · rename_i n e cs hu
    split at h
    · rename_i hc
      obtain ⟨h0, h1, hsome⟩ := hc
      obtain ⟨inf, hinf⟩ := Option.isSome_iff_exists.1 hsome
      have hcell : P.cellsOf e = inf.size := by simp [Program.cellsOf, hinf]
      cases hr with
      | agg _ vs hl hrr =>
        obtain ⟨u, h2, h3⟩ := part_ok (w := w) hl hrr h
        rw [hcell] at h2
        exact ⟨u, by simp [Instr.index, run_asIntOf_int, run_underlying hu, h0, h1, Go.sizeOf, typeInfo, hinf, h2], h3⟩
    · cases h
  · cases h
theorem len_ok {σ : Store} (hi : Inv P g σ w) {t ty : TypeId} {p q : PV} {v : Value} (hr : R P g p v) (h : lenA P σ t p = some q) : ∃ u, (Builtin.len_ #[t] ty #[v]).run P w = .ok u w ∧ R P g q u := by
  unfold lenA at h
  split at h
  · rename_i s hu; cases hr; injection h with h; subst h
    exact ⟨_, by simp [Builtin.len_, run_underlying hu, goInt], .int _ _⟩
  · rename_i n e hu; injection h with h; subst h
    exact ⟨_, by simp [Builtin.len_, run_underlying hu, goInt], .int _ _⟩
  · rename_i e r hu; injection h with h; subst h
    cases hr with
    | rows0 e a cap => exact ⟨_, by simp [Builtin.len_, run_underlying hu, goInt], .int _ _⟩
    | rows _ _ b off cap arr T fr hH hes hcap hn hl hp hce hrr => exact ⟨_, by simp [Builtin.len_, run_underlying hu, goInt], .int _ _⟩
  · rename_i e hu; injection h with h; subst h
    cases hr <;> exact ⟨_, by simp [Builtin.len_, run_underlying hu, goInt], .int _ _⟩
  · rename_i e hu; injection h with h; subst h
    cases hr
    exact ⟨.int .i64 0, by simp [Builtin.len_, run_underlying hu, goInt], .int _ _⟩
  · rename_i hu; injection h with h; subst h
    cases hr
    exact ⟨_, by simp [Builtin.len_, run_underlying hu, goInt], .int _ _⟩
  · rename_i hu
    split at h
    · rename_i es ho
      injection h with h; subst h
      cases hr with
      | map _ b N T hio =>
        obtain ⟨b', ms, clock, h1, h2, h3, h4⟩ := hi.obj _ _ ho
        rw [hio] at h1; injection h1 with h1; injection h1 with h1 h5; subst h1
        have hg : (getObj b).run P w = .ok (.map ms clock) w := by simp [getObj, Sem.run, h2]
        exact ⟨.int .i64 ms.size, by simp [Builtin.len_, run_underlying hu, goInt, hg], by rw [h3]; exact .int _ _⟩
    · cases h
  · cases h
end
end Sg
namespace Sg
open Go
set_option linter.unusedSectionVars false
variable [Glob]
section
variable {P : Program} {g : Gh} {w : World}
omit [Glob] in
theorem asIntOf_R {p : PV} {v : Value} (hr : R P g p v) {k : IntKind} {n : Int} (h : p = .int k n) : v = .int k n := by subst h; cases hr; rfl
omit [Glob] in
theorem sliceBound_ok {y : Nat} {k : IntKind} {i : Int} {code : BoundsCode} (h : 0 ≤ i ∧ i ≤ y) : (Instr.sliceBound (.int k i) y code).run P w = .ok i.toNat w := by
  simp [Instr.sliceBound, run_asIntOf_int, h]
def RO (P : Program) (g : Gh) : Option PV → Option Value → Prop
  | none, none => True
  | some p, some v => R P g p v
  | _, _ => False
omit [Glob] in
theorem bounds_ok {isSlice : Bool} {len cap : Nat} {lo hi : Option PV} {vlo vhi : Option Value} (h1 : RO P g lo vlo) (h2 : RO P g hi vhi) (hc : len ≤ cap) {h l : Nat}
    (hh : boundA len hi (some len) = some h) (hl : boundA h lo (some 0) = some l) :
    (Instr.sliceBounds isSlice len cap vlo vhi none).run P w = .ok (l, h, cap) w ∧ l ≤ h ∧ h ≤ len := by
  have e2 : (vhi = none ∧ h = len) ∨ (∃ k i, vhi = some (.int k i) ∧ 0 ≤ i ∧ i ≤ len ∧ h = i.toNat) := by
    cases hi with
    | none =>
      cases vhi with
      | some v => exact h2.elim
      | none => simp only [boundA, Option.some.injEq] at hh; exact .inl ⟨rfl, hh.symm⟩
    | some p =>
      cases vhi with
      | none => exact h2.elim
      | some v =>
        cases p <;> simp only [boundA] at hh <;> try cases hh
        rename_i k i
        split at hh
        · rename_i hb
          injection hh with hh
          have hv := asIntOf_R h2 rfl
          subst hv
          exact .inr ⟨k, i, rfl, hb.1, hb.2, hh.symm⟩
        · cases hh
  have e3 : (vlo = none ∧ l = 0) ∨ (∃ k i, vlo = some (.int k i) ∧ 0 ≤ i ∧ i ≤ h ∧ l = i.toNat) := by
    cases lo with
    | none =>
      cases vlo with
      | some v => exact h1.elim
      | none => simp only [boundA, Option.some.injEq] at hl; exact .inl ⟨rfl, hl.symm⟩
    | some p =>
      cases vlo with
      | none => exact h1.elim
      | some v =>
        cases p <;> simp only [boundA] at hl <;> try cases hl
        rename_i k i
        split at hl
        · rename_i hb
          injection hl with hl
          have hv := asIntOf_R h1 rfl
          subst hv
          exact .inr ⟨k, i, rfl, hb.1, hb.2, hl.symm⟩
        · cases hl
  have hlen : h ≤ len := by rcases e2 with ⟨_, rfl⟩ | ⟨k, i, _, _, _, rfl⟩ <;> omega
  have hlh : l ≤ h := by rcases e3 with ⟨_, rfl⟩ | ⟨k, i, _, _, _, rfl⟩ <;> omega
  refine ⟨?_, hlh, hlen⟩
  rcases e2 with ⟨rfl, rfl⟩ | ⟨k, i, rfl, hi0, hi1, rfl⟩ <;> rcases e3 with ⟨rfl, rfl⟩ | ⟨k', i', rfl, hj0, hj1, rfl⟩
  · simp [Instr.sliceBounds]
  · simp [Instr.sliceBounds, sliceBound_ok ⟨hj0, hj1⟩]
  · have hb : 0 ≤ i ∧ i ≤ (cap : Int) := ⟨hi0, by omega⟩
    simp [Instr.sliceBounds, sliceBound_ok hb]
  · have hb : 0 ≤ i ∧ i ≤ (cap : Int) := ⟨hi0, by omega⟩
    simp [Instr.sliceBounds, sliceBound_ok hb, sliceBound_ok ⟨hj0, hj1⟩]
theorem slice_ok {σ : Store} (hi : Inv P g σ w) {t : TypeId} {p q : PV} {v : Value} {lo hh : Option PV} {vlo vhi : Option Value} (hr : R P g p v) (h1 : RO P g lo vlo) (h2 : RO P g hh vhi)
    (h : sliceA P σ t p lo hh = some q) : ∃ u, (Instr.sliceAt t v vlo vhi none).run P w = .ok u w ∧ R P g q u := by
  unfold sliceA at h
  split at h
  · rename_i s hu
    cases hr
    split at h
    · rename_i hb ehb
      split at h
      · rename_i lb elb
        injection h with h; subst h
        obtain ⟨hb1, _, _⟩ := bounds_ok (P := P) (w := w) (isSlice := false) h1 h2 (Nat.le_refl _) ehb elb
        exact ⟨_, by simp [Instr.sliceAt, Instr.slice, run_underlying hu, hb1], .str _⟩
      · cases h
    · cases h
  · rename_i e e' rr hu
    split at h
    · rename_i hb ehb
      split at h
      · rename_i lb elb
        split at h
        · rename_i hall
          obtain ⟨rfl, hsome⟩ := hall
          injection h with h; subst h
          obtain ⟨inf, hinf⟩ := Option.isSome_iff_exists.1 hsome
          have hcell : P.cellsOf e = inf.size := by simp [Program.cellsOf, hinf]
          cases hr with
          | rows0 _ a cap =>
            obtain ⟨hb1, hle1, hle2⟩ := bounds_ok (P := P) (w := w) (isSlice := true) h1 h2 (Nat.zero_le cap) ehb elb
            refine ⟨_, by simp [Instr.sliceAt, Instr.slice, run_underlying hu, hb1, Go.sizeOf, typeInfo, hinf]; rfl, ?_⟩
            have : hb - lb = 0 := by simp at hle2; omega
            rw [this]; simp; exact .rows0 _ _ _
          | rows _ _ b off cap arr T fr hH hes hcap hn hl hp hce hrr =>
            rw [hcell] at hes hn hl hrr
            obtain ⟨hb1, hle1, hle2⟩ := bounds_ok (P := P) (w := w) (isSlice := true) h1 h2 hcap ehb elb
            refine ⟨_, by simp [Instr.sliceAt, Instr.slice, run_underlying hu, hb1, Go.sizeOf, typeInfo, hinf]; rfl, ?_⟩
            by_cases he : hb - lb = 0
            · have : List.drop lb (List.take hb rr) = [] := List.drop_eq_nil_of_le (by simp; omega)
              rw [this, he]; exact .rows0 _ _ _
            · have hne : ¬ cap = lb := by omega
              have hlr : (List.drop lb (List.take hb rr)).length = hb - lb := by simp; omega
              rw [if_neg hne]
              have hm2 : (off + lb * inf.size) + (hb - lb) * inf.size ≤ arr.size := by
                have : hb * inf.size ≤ rr.length * inf.size := Nat.mul_le_mul_right _ hle2
                have h3 : lb * inf.size + (hb - lb) * inf.size = hb * inf.size := by rw [← Nat.add_mul]; congr 1; omega
                omega
              rw [← hlr]
              simp only [Option.map_some, Addr.add_mid]
              refine .rows _ _ b _ _ arr T fr hH (by rw [hcell]; exact hes) (by rw [hlr]; omega) (by rw [hlr, hcell]; exact hm2) ?_ ?_ ?_ ?_
              · intro c hc; rw [hcell]; exact hl c (List.mem_of_mem_take (List.mem_of_mem_drop hc))
              · intro c hc; exact hp c (List.mem_of_mem_take (List.mem_of_mem_drop hc))
              · intro c hc; exact hce c (List.mem_of_mem_take (List.mem_of_mem_drop hc))
              · intro i j hi hj
                rw [hcell]
                rw [hlr] at hi
                have e1 : (List.drop lb (List.take hb rr))[i]'(by rw [hlr]; exact hi) = rr[lb + i]'(by omega) := by simp
                simp only [e1] at hj ⊢
                have := hrr (lb + i) j (by omega) hj
                have e2 : off + lb * inf.size + i * inf.size + j = off + (lb + i) * inf.size + j := by rw [Nat.add_mul]; omega
                rw [e2]; exact this
        · cases h
      · cases h
    · cases h
  · rename_i e e' id off n hu
    split at h
    · rename_i hb ehb
      split at h
      · rename_i lb elb
        split at h
        · rename_i hc
          obtain ⟨rfl, hsome⟩ := hc
          obtain ⟨inf, hinf⟩ := Option.isSome_iff_exists.1 hsome
          have hcell : P.cellsOf e = inf.size := by simp [Program.cellsOf, hinf]
          cases hr with
          | sl0 _ _ _ a b T hio =>
            obtain ⟨hb1, hle1, hle2⟩ := bounds_ok (P := P) (w := w) (isSlice := true) h1 h2 (Nat.le_refl 0) ehb elb
            have e1 : hb = 0 := by omega
            have e2 : lb = 0 := by omega
            subst e1; subst e2
            simp only [true_or, if_true, Nat.zero_mul, Nat.add_zero, Nat.sub_self, Option.some.injEq] at h
            subst h
            exact ⟨.slice a 0 0, by simp [Instr.sliceAt, Instr.slice, run_underlying hu, hb1, Go.sizeOf, typeInfo, hinf], .sl0 _ _ _ a b T hio⟩
          | sl _ _ _ _ cap b N T hio hlc hcc =>
            obtain ⟨hb1, hle1, hle2⟩ := bounds_ok (P := P) (w := w) (isSlice := true) h1 h2 hlc ehb elb
            refine ⟨_, by simp [Instr.sliceAt, Instr.slice, run_underlying hu, hb1, Go.sizeOf, typeInfo, hinf]; rfl, ?_⟩
            split at h
            · rename_i hcase
              injection h with h; subst h
              rw [hcell] at hcc ⊢
              have hfin : (if cap = lb then (some ⟨b, off, none⟩ : Option Addr) else some ((⟨b, off, none⟩ : Addr).add (lb * inf.size))) = some ⟨b, off + lb * inf.size, none⟩ := by
                split
                · have : lb = 0 := by omega
                  subst this; simp
                · rw [Addr.add_mid]
              rw [hfin]
              refine .sl _ _ _ _ _ _ _ _ hio (by omega) ?_
              rw [hcell]
              have h3 : lb * inf.size + (cap - lb) * inf.size = cap * inf.size := by rw [← Nat.add_mul]; congr 1; omega
              omega
            · rename_i hcase
              injection h with h; subst h
              have : hb - lb = 0 := by omega
              rw [this]; exact .rows0 _ _ _
        · cases h
      · cases h
    · cases h
  · rename_i e hu
    split at h
    · rename_i hb ehb
      split at h
      · rename_i lb elb
        split at h
        · rename_i hsome
          injection h with h; subst h
          obtain ⟨inf, hinf⟩ := Option.isSome_iff_exists.1 hsome
          cases hr with
          | emp a =>
            obtain ⟨hb1, hle1, hle2⟩ := bounds_ok (P := P) (w := w) (isSlice := true) h1 h2 (Nat.le_refl 0) ehb elb
            have e1 : hb = 0 := by omega
            have e2 : lb = 0 := by omega
            subst e1; subst e2
            exact ⟨.slice a 0 0, by simp [Instr.sliceAt, Instr.slice, run_underlying hu, hb1, Go.sizeOf, typeInfo, hinf], .emp a⟩
        · cases h
      · cases h
    · cases h
  · rename_i n e id off hu
    split at h
    · rename_i hb ehb
      split at h
      · rename_i lb elb
        split at h
        · rename_i hc
          obtain ⟨hsome, hsz⟩ := hc
          obtain ⟨inf, hinf⟩ := Option.isSome_iff_exists.1 hsome
          have hcell : P.cellsOf e = inf.size := by simp [Program.cellsOf, hinf]
          cases hr with
          | ptr _ _ b N T hio =>
            obtain ⟨hb1, hle1, hle2⟩ := bounds_ok (P := P) (w := w) (isSlice := false) h1 h2 (Nat.le_refl n) ehb elb
            refine ⟨_, by simp [Instr.sliceAt, run_underlying hu, hb1, Go.sizeOf, typeInfo, hinf, Instr.sureAddr]; rfl, ?_⟩
            split at h
            · rename_i hcase
              injection h with h; subst h
              have hN : off + n * inf.size ≤ N := by
                rw [hcell] at hsz
                unfold objSize at hsz
                split at hsz
                · rename_i T' cs ho
                  obtain ⟨_, arr, h3, _, h4, _⟩ := cells_at hi ho hio
                  omega
                · omega
              have hfin : (if n = lb then (⟨b, off, none⟩ : Addr) else (⟨b, off, none⟩ : Addr).add (lb * inf.size)) = ⟨b, off + lb * inf.size, none⟩ := by
                split
                · have : lb = 0 := by omega
                  subst this; simp
                · rw [Addr.add_mid]
              rw [hfin, hcell]
              refine .sl _ _ _ _ _ _ _ _ hio (by omega) ?_
              rw [hcell]
              have h3 : lb * inf.size + (n - lb) * inf.size = n * inf.size := by rw [← Nat.add_mul]; congr 1; omega
              omega
            · rename_i hcase
              injection h with h; subst h
              have : hb - lb = 0 := by omega
              rw [this]; exact .rows0 _ _ _
        · cases h
      · cases h
    · cases h
  · cases h
def slice0A (P : Program) (t : TypeId) (x : PV) (lo hi : Option PV) (mx : PV) : Option PV :=
  match P.underlying t, mx, hi, lo with
  | some (.slice e), .int _ 0, some (.int _ 0), none => if (P.info? e).isSome then match x with
      | .rows _ _ | .sl _ _ _ _ | .emp => some .emp
      | _ => none
    else none
  | _, _, _, _ => none
omit [Glob] in
theorem slice0_ok {t : TypeId} {x q mx : PV} {v vm : Value} {lo hi : Option PV} {vlo vhi : Option Value} (hr : R P g x v) (hm : R P g mx vm) (h1 : RO P g lo vlo) (h2 : RO P g hi vhi) (h : slice0A P t x lo hi mx = some q) :
    ∃ u, (Instr.sliceAt t v vlo vhi (some vm)).run P w = .ok u w ∧ R P g q u := by
  unfold slice0A at h
  split at h
  · rename_i e k k' hu
    split at h
    · rename_i hs
      obtain ⟨inf, hinf⟩ := Option.isSome_iff_exists.1 hs
      have e1 := asIntOf_R hm rfl
      subst e1
      cases vlo with
      | some v => exact h1.elim
      | none =>
        cases vhi with
        | none => exact h2.elim
        | some vh =>
          have e2 := asIntOf_R h2 rfl
          subst e2
          have key : ∀ a n c, (Instr.sliceAt t (.slice a n c) none (some (.int k' 0)) (some (.int k 0))).run P w = .ok (.slice a 0 0) w := by
            intro a n c
            simp [Instr.sliceAt, Instr.slice, run_underlying hu, Instr.sliceBounds, Instr.sliceBound, run_asIntOf_int, Go.sizeOf, typeInfo, hinf]
          split at h
          · injection h with h; subst h; cases hr <;> exact ⟨_, key _ _ _, .emp _⟩
          · injection h with h; subst h; cases hr <;> exact ⟨_, key _ _ _, .emp _⟩
          · injection h with h; subst h; cases hr; exact ⟨_, key _ _ _, .emp _⟩
          · cases h
    · cases h
  · cases h
end
end Sg
namespace Sg
open Go
set_option linter.unusedSectionVars false
variable [Glob]
section
variable {P : Program} {g : Gh} {w : World}
omit [Glob] in
theorem eqFs_ok (d : Nat) (ih : ∀ (t : TypeId) (x y : PV) (b : Bool), eqA P d t x y = some b → ∀ (v u : Value), R P g x v → R P g y u → (Op.equalIn d t v u).run P w = .ok b w) (xs ys : List PV)
    (vs us : Array Value) (h1 : vs.size = xs.length) (h2 : us.size = ys.length)
    (h3 : ∀ j (hj : j < xs.length), R P g xs[j] (vs.getD j undef)) (h4 : ∀ j (hj : j < ys.length), R P g ys[j] (us.getD j undef)) (fs : List Field) :
    ∀ (b : Bool), eqFs P d xs ys fs = some b → (Op.eqFields d vs us fs).run P w = .ok b w := by
  induction fs with
  | nil => intro b h; simp only [eqFs, Option.some.injEq] at h; subst h; rfl
  | cons f fs ihf =>
    intro b h
    unfold eqFs at h
    unfold Op.eqFields
    split at h
    · rename_i hn
      rw [if_pos hn]
      split at h
      · rename_i p q hp hq
        obtain ⟨v1, e1, r1⟩ := part_ok (w := w) h1 h3 hp
        obtain ⟨v2, e2, r2⟩ := part_ok (w := w) h2 h4 hq
        split at h
        · rename_i he
          have := ih f.type p q true he _ _ r1 r2
          simp only [Sem.run_bind, e1, e2, this, Result.andThen_ok, Bool.not_true, Bool.false_eq_true, if_false]
          exact ihf b h
        · rename_i he
          have := ih f.type p q false he _ _ r1 r2
          injection h with h; subst h
          simp [Sem.run_bind, e1, e2, this]
        · cases h
      · cases h
    · rename_i hn
      rw [if_neg hn]
      exact ihf b h
omit [Glob] in
theorem eqA_ok (d : Nat) : ∀ (t : TypeId) (x y : PV) (b : Bool), eqA P d t x y = some b → ∀ (v u : Value), R P g x v → R P g y u → (Op.equalIn d t v u).run P w = .ok b w := by
  induction d with
  | zero => intro t x y b h; simp [eqA] at h
  | succ d ih =>
    intro t x y b h v u hx hy
    unfold eqA at h
    split at h
    · rename_i k0 k a k' b' hu
      cases hx; cases hy
      split at h
      · rename_i hk; subst hk; injection h with h; subst h; exact run_equalIn_int w d t k k0 a b' hu
      · cases h
    · rename_i a b' hu
      cases hx; cases hy
      injection h with h; subst h; exact run_equalIn_bool' w d t a b' hu
    · rename_i a b' hu
      cases hx; cases hy
      injection h with h; subst h; exact run_equalIn_string w d t a b' hu
    · rename_i fs xs ys hu
      split at h
      · cases h
      · rename_i hst
        cases hx with
        | agg _ vs hl hr =>
          cases hy with
          | agg _ us hl' hr' =>
            have hfo : P.fieldsOf t = fs := by simp [Program.fieldsOf, hu]
            rw [run_equalIn_struct w d t vs us (by rw [hfo]; exact hu) (by simpa using hst), hfo]
            exact eqFs_ok d ih xs ys vs us hl hl' hr hr' fs.toList b h
    · rename_i hu; cases hx; cases hy; injection h with h; subst h; simp [Op.equalIn, run_underlying hu]
    · rename_i hu; cases hx; cases hy; injection h with h; subst h; simp [Op.equalIn, run_underlying hu]
    · rename_i hu; cases hx; cases hy; injection h with h; subst h; simp [Op.equalIn, run_underlying hu]
    · rename_i hu; cases hx; cases hy; injection h with h; subst h; simp [Op.equalIn, run_underlying hu]
    · rename_i hu; cases hx; cases hy; injection h with h; subst h; simp [Op.equalIn, run_underlying hu]
    · rename_i ms t1 b1 o1 t2 b2 o2 hu
      split at h
      · rename_i hc
        obtain ⟨h0, rfl, rfl, rfl, hk⟩ := hc
        injection h with h; subst h
        obtain ⟨d, rfl⟩ : ∃ d', d = d' + 1 := ⟨d - 1, by omega⟩
        cases hx with
        | iface _ _ _ hx =>
          cases hy with
          | iface _ _ _ hy =>
            cases hx; cases hy
            unfold kpT at hk
            split at hk
            · rename_i te i hp hi
              simp only [Bool.and_eq_true, Option.isSome_iff_exists] at hk
              obtain ⟨hc, j, hj⟩ := hk
              exact run_equalIn_iface_ptr_same w d _ hu hp hi hc hj
            · cases hk
      · cases h
    · cases h
def isConstOp : Operand → Bool
  | .const _ => true
  | _ => false
def eqPair : PV → PV → Bool
  | .bool _, .bool _ | .nilif, .iface _ _ | .iface _ _, .nilif | .nilp, .nilp | .nilp, .ptr _ _ | .ptr _ _, .nilp | .iface _ (.kptr _ _), .iface _ (.kptr _ _) => true
  | _, _ => false
def binOpA (P : Program) (op : BinOp) (t : TypeId) (x y : Operand) (p q : PV) : Option PV :=
  match op, p, q with
  | .shl, .int k a, .int _ b => shiftA .shl k a b
  | .shr, .int k a, .int _ b => shiftA .shr k a b
  | op, .int k a, .int k' b => if k = k' then intOpA op k a b else none
  | op, .str a, .str b => strOpA op a b
  | .eql, .nilif, .nilif => if isConstOp x || isConstOp y then (match P.underlying t with | some (.interface _) => some (.bool true) | _ => none) else none
  | .neq, .nilif, .nilif => if isConstOp x || isConstOp y then (match P.underlying t with | some (.interface _) => some (.bool false) | _ => none) else none
  | .eql, .agg xs, .agg ys => if P.eqGuardType P.depth t then none else (eqA P 10000 t (.agg xs) (.agg ys)).map .bool
  | .neq, .agg xs, .agg ys => if P.eqGuardType P.depth t then none else (eqA P 10000 t (.agg xs) (.agg ys)).map fun b => .bool !b
  | .eql, p, q => if eqPair p q then (eqA P 10000 t p q).map .bool else none
  | .neq, p, q => if eqPair p q then (eqA P 10000 t p q).map fun b => .bool !b else none
  | _, _, _ => none
omit [Glob] in
theorem shift_ok {op : BinOp} {k yk : IntKind} {a b : Int} {q : PV} (h : shiftA op k a b = some q) : ∃ u, (Op.shift op k a yk b).run P w = .ok u w ∧ R P g q u := by
  unfold shiftA at h
  unfold Op.shift
  split at h
  · cases h
  · rename_i hb
    rw [if_neg hb]
    split at h <;> first | (injection h with h; subst h; exact ⟨_, rfl, .int _ _⟩) | cases h
omit [Glob] in
theorem intOp_ok {op : BinOp} {k : IntKind} {a b : Int} {q : PV} (h : intOpA op k a b = some q) (t : TypeId) (h1 : op ≠ .shl) (h2 : op ≠ .shr) : ∃ u, (binOp op t (.int k a) (.int k b)).run P w = .ok u w ∧ R P g q u := by
  cases op <;> simp only [intOpA] at h <;> first | exact absurd rfl h1 | exact absurd rfl h2 | skip
  case quo =>
    split at h
    · cases h
    · rename_i hb; injection h with h; subst h; exact ⟨.int k (k.wrap (a.tdiv b)), by simp [binOp, Op.intDiv, hb], .int _ _⟩
  case rem =>
    split at h
    · cases h
    · rename_i hb; injection h with h; subst h; exact ⟨.int k (a.tmod b), by simp [binOp, Op.intDiv, hb], .int _ _⟩
  all_goals
    injection h with h; subst h
    first
      | exact ⟨_, by simp only [binOp, ne_eq, not_true_eq_false, if_false, Op.intArith, Op.intBits, Op.intCmp, Sem.run_pure], .int _ _⟩
      | exact ⟨_, by simp only [binOp, ne_eq, not_true_eq_false, if_false, Op.intArith, Op.intBits, Op.intCmp, Sem.run_pure], .bool _⟩
omit [Glob] in
theorem strOp_ok {op : BinOp} {a b : ByteArray} {q : PV} (h : strOpA op a b = some q) (t : TypeId) (h1 : op ≠ .shl) (h2 : op ≠ .shr) : ∃ u, (binOp op t (.string a) (.string b)).run P w = .ok u w ∧ R P g q u := by
  have he : (binOp op t (.string a) (.string b)) = Op.stringOp op a b := by cases op <;> rfl
  rw [he]
  cases op <;> simp only [strOpA] at h <;> first | cases h; done | skip
  case add =>
    split at h
    · rename_i hb
      injection h with h; subst h
      refine ⟨.string (a ++ b), ?_, .str _⟩
      have : ¬ (((a.size + b.size : Nat) : Int) > IntKind.i64.max) := by
        have : IntKind.i64.max = 9223372036854775807 := by decide
        omega
      simp only [Op.stringOp, if_neg this, Sem.run_pure]
    · cases h
  all_goals (injection h with h; subst h; exact ⟨_, rfl, .bool _⟩)
omit [Glob] in
theorem guard_nil (op : BinOp) (t : TypeId) (x y : Operand) (h : (isConstOp x || isConstOp y) = true) : (eqGuard op t x y .nilIface .nilIface).run P w = .ok () w := by
  cases x <;> cases y <;> cases op <;> first | (simp [isConstOp] at h; done) | rfl
omit [Glob] in
theorem eqPair_ok {p q : PV} {v u : Value} (h : eqPair p q = true) (hp : R P g p v) (hq : R P g q u) : (∀ a b, ¬ (v = .agg a ∧ u = .agg b)) ∧ ¬ (v = .nilIface ∧ u = .nilIface) := by
  unfold eqPair at h
  split at h <;> first | cases h; done | (cases hp; cases hq; simp)
omit [Glob] in
theorem guard_none (op : BinOp) (t : TypeId) (x y : Operand) (a b : Value) (h1 : ∀ p q, ¬ (a = .agg p ∧ b = .agg q)) (h2 : ¬ (a = .nilIface ∧ b = .nilIface)) : (eqGuard op t x y a b).run P w = .ok () w := by
  have key : ∀ (s1 s2 : Sem Unit), (match a, b with
      | .nilIface, .nilIface => s1
      | .agg _, .agg _ => s2
      | _, _ => pure ()) = pure () := by
    intro s1 s2
    split
    · exact absurd ⟨rfl, rfl⟩ h2
    · exact absurd ⟨rfl, rfl⟩ (h1 _ _)
    · rfl
  cases op <;> first | rfl | skip
  all_goals
    unfold eqGuard
    simp only [Bool.not_true, Bool.false_eq_true, if_false]
    split
    · exact absurd ⟨rfl, rfl⟩ h2
    · exact absurd ⟨rfl, rfl⟩ (h1 _ _)
    · rfl
omit [Glob] in
theorem equalIn_nil (d : Nat) (t : TypeId) (ms : Array (String × TypeId)) (hu : P.underlying t = some (.interface ms)) : (Op.equalIn (d + 1) t .nilIface .nilIface).run P w = .ok true w := by
  simp [Op.equalIn, run_underlying hu]
omit [Glob] in
theorem run_eql_of {t : TypeId} {v u : Value} {b : Bool} (hb : binOp .eql t v u = (do pure (.bool (← Op.equal t v u)))) (h : (Op.equalIn 10000 t v u).run P w = .ok b w) : (binOp .eql t v u).run P w = .ok (.bool b) w := by
  rw [hb]
  have : Op.equal t v u = Op.equalIn 10000 t v u := rfl
  rw [Sem.run_bind, this, h]; rfl
omit [Glob] in
theorem run_neq_of {t : TypeId} {v u : Value} {b : Bool} (hb : binOp .neq t v u = (do pure (.bool (!(← Op.equal t v u))))) (h : (Op.equalIn 10000 t v u).run P w = .ok b w) : (binOp .neq t v u).run P w = .ok (.bool (!b)) w := by
  rw [hb]
  have : Op.equal t v u = Op.equalIn 10000 t v u := rfl
  rw [Sem.run_bind, this, h]; rfl
omit [Glob] in
theorem binOp_ok {op : BinOp} {t : TypeId} {x y : Operand} {p q z : PV} {v u : Value} (hp : R P g p v) (hq : R P g q u) (h : binOpA P op t x y p q = some z) :
    ∃ r, (do eqGuard op t x y v u; binOp op t v u : Sem Value).run P w = .ok r w ∧ R P g z r := by
  unfold binOpA at h
  split at h
  · rename_i k a yk b
    cases hp; cases hq
    obtain ⟨r, e, hr⟩ := shift_ok (P := P) (w := w) (g := g) (yk := yk) h
    exact ⟨r, by rw [Sem.run_bind, guard_none _ _ _ _ _ _ (by simp) (by simp)]; exact e, hr⟩
  · rename_i k a yk b
    cases hp; cases hq
    obtain ⟨r, e, hr⟩ := shift_ok (P := P) (w := w) (g := g) (yk := yk) h
    exact ⟨r, by rw [Sem.run_bind, guard_none _ _ _ _ _ _ (by simp) (by simp)]; exact e, hr⟩
  · rename_i h1 h2
    cases hp; cases hq
    split at h
    · rename_i hk; subst hk
      obtain ⟨r, e, hr⟩ := intOp_ok (P := P) (w := w) (g := g) h t (fun e => by subst e; simp at h1) (fun e => by subst e; simp at h2)
      exact ⟨r, by rw [Sem.run_bind, guard_none _ _ _ _ _ _ (by simp) (by simp)]; exact e, hr⟩
    · cases h
  · cases hp; cases hq
    have h1 : op ≠ .shl := by rintro rfl; simp [strOpA] at h
    have h2 : op ≠ .shr := by rintro rfl; simp [strOpA] at h
    obtain ⟨r, e, hr⟩ := strOp_ok (P := P) (w := w) (g := g) h t h1 h2
    exact ⟨r, by rw [Sem.run_bind, guard_none _ _ _ _ _ _ (by simp) (by simp)]; exact e, hr⟩
  · cases hp; cases hq
    split at h
    · rename_i hc
      split at h
      · rename_i hu
        injection h with h; subst h
        refine ⟨.bool true, ?_, .bool _⟩
        rw [Sem.run_bind, guard_nil _ _ _ _ hc]
        exact run_eql_of rfl (equalIn_nil 9999 t _ hu)
      · cases h
    · cases h
  · cases hp; cases hq
    split at h
    · rename_i hc
      split at h
      · rename_i hu
        injection h with h; subst h
        refine ⟨.bool false, ?_, .bool _⟩
        rw [Sem.run_bind, guard_nil _ _ _ _ hc]
        exact run_neq_of rfl (equalIn_nil 9999 t _ hu)
      · cases h
    · cases h
  · split at h
    · cases h
    · rename_i hgt
      simp only [Option.map_eq_some_iff] at h
      obtain ⟨b, he, rfl⟩ := h
      have hgf : P.eqGuardType P.depth t = false := by simpa using hgt
      cases hp with
      | agg _ vs hl hr =>
        cases hq with
        | agg _ us hl' hr' =>
          have e := eqA_ok (P := P) (w := w) (g := g) 10000 t _ _ b he _ _ (.agg _ vs hl hr) (.agg _ us hl' hr')
          exact ⟨.bool b, by rw [Sem.run_bind, run_eqGuard_agg w .eql t x y vs us hgf]; simp only [Result.andThen_ok, run_eql_struct, e], .bool _⟩
  · split at h
    · cases h
    · rename_i hgt
      simp only [Option.map_eq_some_iff] at h
      obtain ⟨b, he, rfl⟩ := h
      have hgf : P.eqGuardType P.depth t = false := by simpa using hgt
      cases hp with
      | agg _ vs hl hr =>
        cases hq with
        | agg _ us hl' hr' =>
          have e := eqA_ok (P := P) (w := w) (g := g) 10000 t _ _ b he _ _ (.agg _ vs hl hr) (.agg _ us hl' hr')
          exact ⟨.bool (!b), by rw [Sem.run_bind, run_eqGuard_agg w .neq t x y vs us hgf]; simp only [Result.andThen_ok, run_neq_struct, e], .bool _⟩
  · split at h
    · rename_i hpair
      simp only [Option.map_eq_some_iff] at h
      obtain ⟨b, he, rfl⟩ := h
      have e := eqA_ok (P := P) (w := w) (g := g) 10000 t _ _ b he _ _ hp hq
      obtain ⟨k1, k2⟩ := eqPair_ok hpair hp hq
      refine ⟨.bool b, ?_, .bool _⟩
      rw [Sem.run_bind, guard_none _ _ _ _ _ _ k1 k2]
      unfold eqPair at hpair
      split at hpair <;> first | (cases hpair; done) | (cases hp; cases hq; exact run_eql_of rfl e)
    · cases h
  · split at h
    · rename_i hpair
      simp only [Option.map_eq_some_iff] at h
      obtain ⟨b, he, rfl⟩ := h
      have e := eqA_ok (P := P) (w := w) (g := g) 10000 t _ _ b he _ _ hp hq
      obtain ⟨k1, k2⟩ := eqPair_ok hpair hp hq
      refine ⟨.bool (!b), ?_, .bool _⟩
      rw [Sem.run_bind, guard_none _ _ _ _ _ _ k1 k2]
      unfold eqPair at hpair
      split at hpair <;> first | (cases hpair; done) | (cases hp; cases hq; exact run_neq_of rfl e)
    · cases h
  · cases h
end
end Sg
namespace Sg
open Go
set_option linter.unusedSectionVars false
variable [Glob]
section
variable {P : Program} {g : Gh} {w : World}
def unOpA : UnOp → PV → Option PV
  | .not, .bool b => some (.bool !b)
  | .neg, .int k n => some (.int k (k.wrap (0 - n)))
  | _, _ => none
omit [Glob] in
theorem unOp_ok {op : UnOp} {p q : PV} {v : Value} (hr : R P g p v) (h : unOpA op p = some q) : ∃ u, (Op.unary op v).run P w = .ok u w ∧ R P g q u := by
  unfold unOpA at h
  split at h
  · cases hr; injection h with h; subst h; exact ⟨_, rfl, .bool _⟩
  · cases hr; injection h with h; subst h; exact ⟨_, rfl, .int _ _⟩
  · cases h
def convA (P : Program) (src dst : TypeId) (p : PV) : Option PV :=
  match P.underlying src, P.underlying dst, p with
  | some _, some (.int k), .int _ n => some (.int k (k.wrap n))
  | some .string, some .string, .str s => some (.str s)
  | _, _, _ => none
omit [Glob] in
theorem conv_ok {src dst : TypeId} {p q : PV} {v : Value} (hr : R P g p v) (h : convA P src dst p = some q) : ∃ u, (convert src dst v).run P w = .ok u w ∧ R P g q u := by
  unfold convA at h
  split at h
  · rename_i d k k' n h1 h2
    cases hr; injection h with h; subst h
    refine ⟨.int k (k.wrap n), ?_, .int _ _⟩
    simp only [convert, Sem.run_bind, run_underlying h1, run_underlying h2, Result.andThen_ok]
    cases d <;> rfl
  · rename_i s h1 h2
    cases hr; injection h with h; subst h
    refine ⟨.string s, ?_, .str _⟩
    simp only [convert, Sem.run_bind, run_underlying h1, run_underlying h2, Result.andThen_ok]
    rfl
  · cases h
def bytA : List PV → Option (List UInt8)
  | [] => some []
  | .int .u8 n :: r => (bytA r).map (UInt8.ofNat n.toNat :: ·)
  | _ => none
def txt (l : List UInt8) : ByteArray := ⟨l.toArray⟩
omit [Glob] in
theorem bytA_ok : (cs : List PV) → (l : List UInt8) → bytA cs = some l → ∃ ns : List Int, ns.length = cs.length ∧ l = ns.map (fun n => UInt8.ofNat n.toNat) ∧ ∀ j (h : j < cs.length), ∃ n, ns[j]? = some n ∧ cs[j] = .int .u8 n
  | [], l, h => by simp [bytA] at h; subst h; exact ⟨[], rfl, rfl, fun j hj => by simp at hj⟩
  | .int .u8 n :: r, l, h => by
    simp only [bytA, Option.map_eq_some_iff] at h
    obtain ⟨l', h1, rfl⟩ := h
    obtain ⟨ns, k1, k2, k3⟩ := bytA_ok r l' h1
    refine ⟨n :: ns, by simp [k1], by simp [k2], fun j hj => ?_⟩
    cases j with
    | zero => exact ⟨n, rfl, rfl⟩
    | succ j => exact k3 j (by simpa using hj)
omit [Glob] in
theorem foldl_push : (ns : List Int) → (s : ByteArray) → ns.foldl (fun r n => r.push (UInt8.ofNat n.toNat)) s = ⟨s.data ++ (ns.map fun n => UInt8.ofNat n.toNat).toArray⟩
  | [], s => by simp
  | n :: ns, s => by rw [List.foldl_cons, foldl_push ns]; cases s; simp [ByteArray.push]
omit [Glob] in
theorem bytesToString_ok {cs : List PV} {l : List UInt8} (h : bytA cs = some l) {b off cap : Nat} {f : Nat → Value}
    (hc : ∀ j (hj : j < cs.length), w.cell? ⟨b, off + j, none⟩ = some (f j) ∧ R P g cs[j] (f j)) :
    (Conv.bytesToString (.slice (some ⟨b, off, none⟩) cs.length cap)).run P w = .ok (.string (txt l)) w := by
  obtain ⟨ns, k1, k2, k3⟩ := bytA_ok cs l h
  rw [run_bytesToString w _ _ _ ns]
  · rw [foldl_push, k2]; simp [txt, ByteArray.empty, ByteArray.emptyWithCapacity]; rfl
  · rw [run_loadCells w _ _ (fun j => f j)]
    · congr 2
      apply List.ext_getElem?
      intro j
      by_cases hj : j < cs.length
      · obtain ⟨n, e1, e2⟩ := k3 j hj
        have := (hc j hj).2
        rw [e2] at this
        generalize hv : f j = v at this
        cases this
        simp [hj, e1, hv]
      · simp [hj, List.getElem?_eq_none (show ns.length ≤ j by omega)]
    · intro j hj
      have := (hc j hj).1
      rwa [Addr.add_lit]
def convX (P : Program) (σ : Store) (src dst : TypeId) : PV → Option PV
  | .sl e id off n => match P.underlying src, P.underlying dst, P.underlying e, σ.f id with
    | some (.slice e'), some .string, some (.int .u8), some (.cells _ cs) =>
      if e' = e ∧ P.cellsOf e = 1 ∧ off + n ≤ cs.length then (bytA ((cs.drop off).take n)).map fun l => .str (txt l) else none
    | _, _, _, _ => none
  | .rows e r => match P.underlying src, P.underlying dst, P.underlying e with
    | some (.slice e'), some .string, some (.int .u8) =>
      if e' = e ∧ P.cellsOf e = 1 then (bytA r.flatten).map fun l => .str (txt l) else none
    | _, _, _ => none
  | p => convA P src dst p
omit [Glob] in
theorem flat1 : (r : List (List PV)) → (∀ c ∈ r, c.length = 1) → r.flatten.length = r.length ∧ ∀ j (h : j < r.length) (h' : j < r.flatten.length) (h'' : 0 < r[j].length), r.flatten[j] = r[j][0]
  | [], _ => by simp
  | c :: r, h => by
    obtain ⟨i1, i2⟩ := flat1 r (fun c hc => h c (by simp [hc]))
    have hc := h c (by simp)
    match c, hc with
    | [x], _ =>
      refine ⟨by simp [i1], fun j a b c => ?_⟩
      cases j with
      | zero => rfl
      | succ j =>
        have := i2 j (by simpa using a) (by simpa using b) (by simpa using c)
        simpa using this
theorem convX_ok {σ : Store} (hi : Inv P g σ w) {src dst : TypeId} {p q : PV} {v : Value} (hr : R P g p v) (h : convX P σ src dst p = some q) : ∃ u, (convert src dst v).run P w = .ok u w ∧ R P g q u := by
  unfold convX at h
  split at h
  · rename_i e id off n
    split at h
    · rename_i e' T' cs h1 h2 h3 ho
      split at h
      · rename_i hc
        obtain ⟨rfl, hc1, hle⟩ := hc
        simp only [Option.map_eq_some_iff] at h
        obtain ⟨l, hl, rfl⟩ := h
        have hlen : ((cs.drop off).take n).length = n := by simp; omega
        cases hr with
        | sl _ _ _ _ cap b N T hio k1 k2 =>
          obtain ⟨rfl, arr, rfl, hh, hle', hcs⟩ := cells_at hi ho hio
          refine ⟨.string (txt l), ?_, .str _⟩
          rw [run_convert_bytes_string w _ _ _ _ _ _ h1 h3 h2]
          by_cases hn : n = 0
          · subst hn
            simp [bytA] at hl; subst hl
            rw [run_bytesToString w _ _ _ []]
            · rfl
            · simp [loadCells, loadCellsFrom]
          have hh := hh.resolve_left (by omega)
          have := bytesToString_ok (P := P) (g := g) (w := w) hl (b := b) (off := off) (cap := cap) (f := fun j => arr.getD (off + j) undef) (fun j hj => by
            rw [cell_of_row w b (off + j) arr T (0, 0) hh]
            rw [hlen] at hj
            refine ⟨by rw [Array.getD_eq_getD_getElem?, Array.getElem?_eq_getElem (by omega)]; rfl, ?_⟩
            have := (hcs (off + j) (by omega)).1
            simpa using this)
          rwa [hlen] at this
        | sl0 _ _ _ a b T hio =>
          refine ⟨.string (txt l), ?_, .str _⟩
          rw [run_convert_bytes_string w _ _ _ _ _ _ h1 h3 h2]
          simp [bytA] at hl; subst hl
          cases a with
          | none => rfl
          | some a =>
            rw [run_bytesToString w _ _ _ []]
            · rfl
            · simp [loadCells, loadCellsFrom]
      · cases h
    · cases h
  · rename_i e r
    split at h
    · rename_i e' h1 h2 h3
      split at h
      · rename_i hc
        obtain ⟨rfl, hc1⟩ := hc
        simp only [Option.map_eq_some_iff] at h
        obtain ⟨l, hl, rfl⟩ := h
        cases hr with
        | rows0 _ a cap =>
          refine ⟨.string (txt l), ?_, .str _⟩
          rw [run_convert_bytes_string w _ _ _ _ _ _ h1 h3 h2]
          simp [bytA] at hl; subst hl
          cases a with
          | none => rfl
          | some a =>
            rw [run_bytesToString w _ _ _ []]
            · rfl
            · simp [loadCells, loadCellsFrom]
        | rows _ _ b off cap arr T fr k1 k2 k3 k4 k5 k6 k7 k8 =>
          refine ⟨.string (txt l), ?_, .str _⟩
          rw [run_convert_bytes_string w _ _ _ _ _ _ h1 h3 h2]
          have hh := hi.hH _ _ k1
          obtain ⟨f1, f2⟩ := flat1 r (fun c hc => by rw [k5 c hc, hc1])
          have := bytesToString_ok (P := P) (g := g) (w := w) hl (b := b) (off := off) (cap := cap) (f := fun j => arr.getD (off + j) undef) (fun j hj => by
            rw [cell_of_row w b (off + j) arr T fr hh]
            have hj' : j < r.length := by omega
            rw [hc1] at k4
            refine ⟨by rw [Array.getD_eq_getD_getElem?, Array.getElem?_eq_getElem (by omega)]; rfl, ?_⟩
            have h0 : 0 < r[j].length := by rw [k5 _ (List.getElem_mem hj'), hc1]; decide
            rw [f2 j hj' hj h0]
            have := k8 j 0 hj' h0
            rwa [hc1, Nat.mul_one, Nat.add_zero] at this)
          rwa [f1] at this
      · cases h
    · cases h
  · exact conv_ok hr h
def extractA (i : Nat) : PV → Option PV
  | .tuple vs => vs[i]?
  | _ => none
omit [Glob] in
theorem extract_ok {i : Nat} {p q : PV} {v : Value} (hr : R P g p v) (h : extractA i p = some q) : ∃ u, (Instr.extract v i).run P w = .ok u w ∧ R P g q u := by
  unfold extractA at h
  split at h
  · rename_i cs
    cases hr with
    | tuple _ vs hl hrr =>
      obtain ⟨hj, hq⟩ := List.getElem?_eq_some_iff.1 h
      refine ⟨vs.getD i undef, ?_, hq ▸ hrr i hj⟩
      have hv : vs[i]? = some (vs.getD i undef) := by
        have h1 : i < vs.size := by omega
        simp [Array.getD, h1]
      simp only [Instr.extract, hv, Sem.run_pure]
  · cases h
def ifaceA (P : Program) (t : TypeId) (p : PV) : Option PV :=
  match P.underlying t with
  | some (.interface _) => none
  | some _ => some (.iface t p)
  | none => none
omit [Glob] in
theorem iface_ok {t : TypeId} {p q : PV} {v : Value} (hr : R P g p v) (h : ifaceA P t p = some q) : ∃ u, (Instr.makeInterface t v).run P w = .ok u w ∧ R P g q u := by
  unfold ifaceA at h
  split at h
  · cases h
  · rename_i d hd hu
    injection h with h; subst h
    refine ⟨.iface t v, ?_, .iface _ _ _ hr⟩
    simp only [Instr.makeInterface, Sem.run_bind, run_underlying hu, Result.andThen_ok]
    cases d <;> first | rfl | exact (hd _ rfl).elim
  · cases h
def nilCheckA : PV → Option PV
  | .ptr id off => some (.ptr id off)
  | .vptr cs => some (.vptr cs)
  | .iface t v => some (.iface t v)
  | .fn (.func f) a c => some (.fn (.func f) a c)
  | .fn (.yield f) a c => some (.fn (.yield f) a c)
  | _ => none
def minMaxA (b : Bool) : List PV → Option PV
  | [.int k x, .int k' y] => if k = k' then some (.int k (if b then (if y > x then y else x) else (if y < x then y else x))) else none
  | _ => none
omit [Glob] in
theorem max_ok {t ty} {l : List PV} {vs : Array Value} {q : PV} (hr : RL P g l vs) (h : minMaxA true l = some q) : ∃ u, (Builtin.max_ t ty vs).run P w = .ok u w ∧ R P g q u := by
  unfold minMaxA at h
  split at h
  · rename_i k x k' y
    split at h
    · rename_i hk; subst hk
      injection h with h; subst h
      obtain ⟨h1, h2⟩ := hr
      have e0 := h2 0 (by simp)
      have e1 := h2 1 (by simp)
      simp only [List.getElem_cons_zero, List.getElem_cons_succ] at e0 e1
      have : vs = #[.int k x, .int k y] := by
        apply Array.ext
        · simpa using h1
        · intro i hi1 hi2
          simp at hi2
          have hs : i < vs.size := hi1
          match i, hi2 with
          | 0, _ => simp only [Array.getD, hs, dite_true] at e0; generalize hz : vs.getInternal 0 hs = z at e0; cases e0; exact hz
          | 1, _ => simp only [Array.getD, hs, dite_true] at e1; generalize hz : vs.getInternal 1 hs = z at e1; cases e1; exact hz
      subst this
      exact ⟨_, rfl, by simpa using R.int (P := P) (g := g) k _⟩
    · cases h
  · cases h
omit [Glob] in
theorem min_ok {t ty} {l : List PV} {vs : Array Value} {q : PV} (hr : RL P g l vs) (h : minMaxA false l = some q) : ∃ u, (Builtin.min_ t ty vs).run P w = .ok u w ∧ R P g q u := by
  unfold minMaxA at h
  split at h
  · rename_i k x k' y
    split at h
    · rename_i hk; subst hk
      injection h with h; subst h
      obtain ⟨h1, h2⟩ := hr
      have e0 := h2 0 (by simp)
      have e1 := h2 1 (by simp)
      simp only [List.getElem_cons_zero, List.getElem_cons_succ] at e0 e1
      have : vs = #[.int k x, .int k y] := by
        apply Array.ext
        · simpa using h1
        · intro i hi1 hi2
          simp at hi2
          have hs : i < vs.size := hi1
          match i, hi2 with
          | 0, _ => simp only [Array.getD, hs, dite_true] at e0; generalize hz : vs.getInternal 0 hs = z at e0; cases e0; exact hz
          | 1, _ => simp only [Array.getD, hs, dite_true] at e1; generalize hz : vs.getInternal 1 hs = z at e1; cases e1; exact hz
      subst this
      exact ⟨_, rfl, by simpa using R.int (P := P) (g := g) k _⟩
    · cases h
  · cases h
def zeroA (P : Program) (t : TypeId) : Option PV :=
  match P.info? t with
  | some i => match i.zero with
    | some z => ofConst z
    | none => none
  | none => none
omit [Glob] in
theorem zero_ok {t : TypeId} {q : PV} (h : zeroA P t = some q) : ∃ z, (zeroValue t).run P w = .ok z w ∧ R P g q z := by
  unfold zeroA at h
  split at h
  · rename_i i hi
    split at h
    · rename_i z hz
      exact ⟨z, by simp [zeroValue, typeInfo, hi, hz], R_const z q h⟩
    · cases h
  · cases h
def assertA (P : Program) (asserted : TypeId) (ok : Bool) (p : PV) : Option PV :=
  match P.underlying asserted, p with
  | some (.interface want), .iface t v => match P.info? t with
    | some i => match Instr.missingMethod want i.methods with
      | none => some (if ok then .tuple [.iface t v, .bool true] else .iface t v)
      | some _ => if ok then (zeroA P asserted).map fun z => .tuple [z, .bool false] else none
    | none => none
  | some (.interface _), _ => none
  | some _, .iface t v => if t = asserted then some (if ok then .tuple [v, .bool true] else v) else if ok then (zeroA P asserted).map fun z => .tuple [z, .bool false] else none
  | some _, .nilif => if ok then (zeroA P asserted).map fun z => .tuple [z, .bool false] else none
  | _, _ => none
omit [Glob] in
theorem R_pair {p q : PV} {v u : Value} (h1 : R P g p v) (h2 : R P g q u) : R P g (.tuple [p, q]) (.tuple #[v, u]) :=
  .tuple _ _ rfl fun j hj => by
    match j, hj with
    | 0, _ => exact h1
    | 1, _ => exact h2
omit [Glob] in
theorem assert_ok {xt asserted : TypeId} {ok : Bool} {p q : PV} {v : Value} (hr : R P g p v) (h : assertA P asserted ok p = some q) : ∃ u, (Instr.typeAssert v xt asserted ok).run P w = .ok u w ∧ R P g q u := by
  unfold assertA at h
  split at h
  · rename_i want t x hu
    cases hr with
    | iface _ _ u hx =>
      split at h
      · rename_i i hi
        split at h
        · rename_i hm
          injection h with h; subst h
          cases ok
          · exact ⟨.iface t u, by simp [Instr.typeAssert, run_underlying hu, typeInfo, hi, hm], by simpa using R.iface (P := P) (g := g) t x u hx⟩
          · exact ⟨.tuple #[.iface t u, .bool true], by simp [Instr.typeAssert, run_underlying hu, typeInfo, hi, hm], R_pair (.iface t x u hx) (.bool true)⟩
        · rename_i m hm
          split at h
          · rename_i hok
            simp only [Option.map_eq_some_iff] at h
            obtain ⟨z, hz, rfl⟩ := h
            obtain ⟨zv, e, hzr⟩ := zero_ok (P := P) (g := g) (w := w) hz
            subst hok
            exact ⟨.tuple #[zv, .bool false], by simp [Instr.typeAssert, run_underlying hu, typeInfo, hi, hm, e], R_pair hzr (.bool false)⟩
          · cases h
      · cases h
  · cases h
  · rename_i d t x hd hu
    cases hr with
    | iface _ _ u hx =>
      have hred : ∀ (A : Sem Value) , True := fun _ => trivial
      split at h
      · rename_i ht
        injection h with h; subst h
        subst ht
        refine ⟨if ok then .tuple #[u, .bool true] else u, ?_, ?_⟩
        · simp only [Instr.typeAssert, Sem.run_bind, run_underlying hu, Result.andThen_ok]
          cases d <;> first | (simp; done) | exact (hd _ rfl).elim
        · cases ok
          · simpa using hx
          · exact R_pair hx (.bool true)
      · rename_i ht
        split at h
        · rename_i hok
          subst hok
          simp only [Option.map_eq_some_iff] at h
          obtain ⟨z, hz, rfl⟩ := h
          obtain ⟨zv, e, hzr⟩ := zero_ok (P := P) (g := g) (w := w) hz
          refine ⟨.tuple #[zv, .bool false], ?_, R_pair hzr (.bool false)⟩
          simp only [Instr.typeAssert, Sem.run_bind, run_underlying hu, Result.andThen_ok]
          cases d <;> first | (simp [ht, e]; done) | exact (hd _ rfl).elim
        · cases h
  · rename_i d hd hu
    cases hr
    split at h
    · rename_i hok
      subst hok
      simp only [Option.map_eq_some_iff] at h
      obtain ⟨z, hz, rfl⟩ := h
      obtain ⟨zv, e, hzr⟩ := zero_ok (P := P) (g := g) (w := w) hz
      refine ⟨.tuple #[zv, .bool false], ?_, R_pair hzr (.bool false)⟩
      simp only [Instr.typeAssert, Sem.run_bind, run_underlying hu, Result.andThen_ok]
      cases d <;> first | (simp [e]; done) | exact (hd _ rfl).elim
    · cases h
  · cases h
def arrPtrA (P : Program) (arr : TypeId) (p : PV) : Option PV :=
  match P.underlying arr, p with
  | some (.array n _), .sl _ id off len => if 0 < n ∧ n ≤ len then some (.ptr id off) else none
  | some (.array n _), .rows e r => if 0 < n ∧ n ≤ r.length ∧ P.cellsOf e = 1 then some (.vptr r.flatten) else none
  | _, _ => none
omit [Glob] in
theorem flatten_one : (r : List (List PV)) → (∀ c ∈ r, c.length = 1) → r.flatten.length = r.length ∧ ∀ j (hj : j < r.length) (h1 : j < r.flatten.length) (h2 : 0 < (r[j]).length), r.flatten[j] = r[j][0]
  | [], _ => by simp
  | c :: r, h => by
    obtain ⟨x, rfl⟩ : ∃ x, c = [x] := by
      have := h c (by simp)
      match c, this with
      | [x], _ => exact ⟨x, rfl⟩
    obtain ⟨h1, h2⟩ := flatten_one r (fun c hc => h c (by simp [hc]))
    refine ⟨by simp [h1], fun j hj k1 k2 => ?_⟩
    cases j with
    | zero => simp
    | succ j =>
      simp only [List.flatten_cons, List.cons_append, List.nil_append, List.getElem_cons_succ]
      exact h2 j (by simpa using hj) (by simpa using k1) (by simpa using k2)
omit [Glob] in
theorem arrPtr_ok {arr : TypeId} {p q : PV} {v : Value} (hr : R P g p v) (h : arrPtrA P arr p = some q) : ∃ u, (Instr.arrayAt arr v).run P w = .ok u w ∧ R P g q u := by
  unfold arrPtrA at h
  split at h
  · rename_i n e e' id off len hu
    split at h
    · rename_i hle
      obtain ⟨h0, hle⟩ := hle
      injection h with h; subst h
      cases hr with
      | sl0 => omega
      | sl _ _ _ _ cap b N T hio hlc hc =>
        exact ⟨_, by simp [Instr.arrayAt, run_underlying hu, Nat.not_lt.2 hle], .ptr _ _ _ _ _ hio⟩
    · cases h
  · rename_i n e' e r hu
    split at h
    · rename_i hc
      obtain ⟨h0, hle, hall⟩ := hc
      injection h with h; subst h
      cases hr with
      | rows0 _ a cap => simp at hle; omega
      | rows _ _ b off cap arr T fr hH hes hcap hn hl hp hce hrr =>
        rw [hall] at hes hn hl hrr
        have hone : ∀ c ∈ r, c.length = 1 := hl
        obtain ⟨f1, f2⟩ := flatten_one r hone
        refine ⟨_, by simp [Instr.arrayAt, run_underlying hu, Nat.not_lt.2 hle]; rfl, ?_⟩
        refine .vptr _ b off arr T fr hH (by rw [f1]; simpa using hn) ?_ fun j hj => ?_
        · refine (pureL_iff _).2 fun x hx => ?_
          obtain ⟨c, hc, hxc⟩ := List.mem_flatten.1 hx
          exact (pureL_iff _).1 (hp c hc) x hxc
        · have hj' : j < r.length := by omega
          have h1 : 0 < (r[j]).length := by rw [hone _ (List.getElem_mem hj')]; exact Nat.one_pos
          rw [f2 j hj' hj h1]
          have := hrr j 0 hj' h1
          simpa using this
    · cases h
  · cases h
def findA (k : PV) : List (PV × PV) → Option (Option PV)
  | [] => some none
  | (x, v) :: es => match k, x with
    | .int a n, .int b m => if a = b then (if n = m then some (some v) else findA k es) else none
    | .str s, .str t => if s.toList = t.toList then some (some v) else findA k es
    | _, _ => none
def keyOk (P : Program) (kt : TypeId) (k : PV) : Bool :=
  match P.underlying kt, k with
  | some (.int _), .int _ _ => true
  | some .string, .str _ => true
  | _, _ => false
def lookupA (P : Program) (σ : Store) (t : TypeId) (ok : Bool) (m k : PV) : Option PV :=
  match P.underlying t, m with
  | some (.map kt et), .map id => match σ.f id with
    | some (.map es) => match keyOk P kt k, findA k es with
      | true, some (some v) => some (if ok then .tuple [v, .bool true] else v)
      | true, some none => (zeroA P et).map fun z => if ok then .tuple [z, .bool false] else z
      | _, _ => none
    | _ => none
  | _, _ => none
omit [Glob] in
theorem findA_ok {kd : TypeDesc} {k : PV} {kv : Value} (hk : R P g k kv) (hkd : (∃ kk, kd = .int kk ∧ ∃ a n, k = .int a n) ∨ (kd = .string ∧ ∃ s, k = .str s)) (es : List (PV × PV)) :
    ∀ (ms : List MapEntry) (i : Nat), ms.length = es.length → (∀ j (h1 : j < es.length) (h2 : j < ms.length), R P g es[j].1 ms[j].key ∧ R P g es[j].2 ms[j].val) →
      ∀ o, findA k es = some o → ∃ ro, Instr.findNow kd kv ms i = some ro ∧ (match o, ro with | none, none => True | some v, some (_, u) => R P g v u | _, _ => False) := by
  induction es with
  | nil =>
    intro ms i hl _ o h
    have : ms = [] := List.eq_nil_of_length_eq_zero (by simpa using hl)
    subst this
    simp only [findA, Option.some.injEq] at h
    subst h
    exact ⟨none, rfl, trivial⟩
  | cons e es ih =>
    intro ms i hl hr o h
    obtain ⟨x, v⟩ := e
    cases ms with
    | nil => simp at hl
    | cons m ms =>
      have h0 := hr 0 (by simp) (by simp)
      simp only [List.getElem_cons_zero] at h0
      obtain ⟨hx, hv⟩ := h0
      have ih' := ih ms (i + 1) (by simpa using hl) (fun j h1 h2 => hr (j + 1) (Nat.succ_lt_succ h1) (Nat.succ_lt_succ h2))
      unfold findA at h
      split at h
      · rename_i a n b mm
        cases hk
        generalize hkey : m.key = mk at hx
        cases hx
        split at h
        · rename_i hab
          subst hab
          rcases hkd with ⟨kk, rfl, _⟩ | ⟨_, s, hs⟩
          · have hs : Instr.sameNow (.int kk) (.int a n) m.key = some (n == mm) := by rw [hkey]; simp [Instr.sameNow]
            split at h
            · rename_i hnm
              subst hnm
              injection h with h; subst h
              refine ⟨some (i, m.val), ?_, hv⟩
              have : (n == n) = true := by simp
              rw [this] at hs
              simp only [Instr.findNow, hs]
            · rename_i hnm
              obtain ⟨ro, e1, e2⟩ := ih' o h
              refine ⟨ro, ?_, e2⟩
              have : (n == mm) = false := by simp [hnm]
              rw [this] at hs
              simp only [Instr.findNow, hs, e1]
          · cases hs
        · cases h
      · rename_i s t
        cases hk
        generalize hkey : m.key = mk at hx
        cases hx
        rcases hkd with ⟨kk, _, a, n, hs⟩ | ⟨rfl, _⟩
        · cases hs
        · have hs : Instr.sameNow .string (.string s) m.key = some (s.toList == t.toList) := by rw [hkey, ← beq_toListBytes]; rfl
          split at h
          · rename_i hst
            injection h with h; subst h
            refine ⟨some (i, m.val), ?_, hv⟩
            have : (s.toList == t.toList) = true := by simp [hst]
            rw [this] at hs
            simp only [Instr.findNow, hs]
          · rename_i hst
            obtain ⟨ro, e1, e2⟩ := ih' o h
            refine ⟨ro, ?_, e2⟩
            have : (s.toList == t.toList) = false := by simp [hst]
            rw [this] at hs
            simp only [Instr.findNow, hs, e1]
      · cases h
omit [Glob] in
theorem keyOk_ok {kt : TypeId} {k : PV} (h : keyOk P kt k = true) : ∃ kd, P.underlying kt = some kd ∧ ((∃ kk, kd = .int kk ∧ ∃ a n, k = .int a n) ∨ (kd = .string ∧ ∃ s, k = .str s)) := by
  unfold keyOk at h
  split at h
  · rename_i kk a n hx; exact ⟨_, hx, .inl ⟨_, rfl, _, _, rfl⟩⟩
  · rename_i s hx; exact ⟨_, hx, .inr ⟨rfl, _, rfl⟩⟩
  · cases h
omit [Glob] in
theorem checkKey_ok {b : Bool} {kt : TypeId} {k : PV} {vk : Value} (hk : R P g k vk) (h : keyOk P kt k = true) : (Instr.checkKey b 10000 kt vk).run P w = .ok () w := by
  show (Instr.checkKey b (9999 + 1) kt vk).run P w = .ok () w
  obtain ⟨kd, hx, hor⟩ := keyOk_ok h
  rcases hor with ⟨kk, rfl, a, n, rfl⟩ | ⟨rfl, s, rfl⟩
  · cases hk; unfold Instr.checkKey; rw [Sem.run_bind, run_underlying hx]; rfl
  · cases hk; unfold Instr.checkKey; rw [Sem.run_bind, run_underlying hx]; rfl
theorem lookup_ok {σ : Store} (hi : Inv P g σ w) {t : TypeId} {ok : Bool} {m k q : PV} {vm vk : Value} (hm : R P g m vm) (hk : R P g k vk) (h : lookupA P σ t ok m k = some q) :
    ∃ u, (Instr.lookup t vm vk ok).run P w = .ok u w ∧ R P g q u := by
  unfold lookupA at h
  split at h
  · rename_i kt et id hu
    split at h
    · rename_i es ho
      cases hm with
      | map _ b N T hio =>
        obtain ⟨b', ms, clock, h1, h2, h3, h4⟩ := hi.obj _ _ ho
        rw [hio] at h1; injection h1 with h1; injection h1 with h1 h5; subst h1
        have hg : (getObj b).run P w = .ok (.map ms clock) w := by simp [getObj, Sem.run, h2]
        have hms : ms.toList.length = es.length := by simpa using h3
        have hrel : ∀ j (h1 : j < es.length) (h2 : j < ms.toList.length), R P g es[j].1 ms.toList[j].key ∧ R P g es[j].2 ms.toList[j].val := by
          intro j k1 k2
          have := h4 j k1
          have hj : j < ms.size := by simpa using k2
          simp only [Array.getD, hj, dite_true] at this
          exact ⟨this.1, this.2.1⟩
        split at h
        · rename_i v hb hf
          injection h with h; subst h
          obtain ⟨kd, hx, hor⟩ := keyOk_ok hb
          obtain ⟨ro, e1, e2⟩ := findA_ok hk hor es ms.toList 0 hms hrel _ hf
          cases ro with
          | none => exact e2.elim
          | some ro =>
            obtain ⟨i, u⟩ := ro
            refine ⟨if ok then .tuple #[u, .bool true] else u, ?_, ?_⟩
            · simp [Instr.lookup, run_underlying hu, hg, checkKey_ok hk hb, Instr.findKey, run_underlying hx, e1]
            · cases ok
              · simpa using e2
              · exact R_pair e2 (.bool true)
        · rename_i hb hf
          obtain ⟨kd, hx, hor⟩ := keyOk_ok hb
          obtain ⟨ro, e1, e2⟩ := findA_ok hk hor es ms.toList 0 hms hrel _ hf
          simp only [Option.map_eq_some_iff] at h
          obtain ⟨z, hz, rfl⟩ := h
          obtain ⟨zv, e, hzr⟩ := zero_ok (P := P) (g := g) (w := w) hz
          cases ro with
          | some ro => exact e2.elim
          | none =>
            refine ⟨if ok then .tuple #[zv, .bool false] else zv, ?_, ?_⟩
            · simp [Instr.lookup, run_underlying hu, hg, checkKey_ok hk hb, Instr.findKey, run_underlying hx, e1, e]
            · cases ok
              · simpa using hzr
              · exact R_pair hzr (.bool false)
        · cases h
    · cases h
  · cases h
end
end Sg
namespace Sg
open Go
set_option linter.unusedSectionVars false
variable [Glob]
def PV.cellsOf : PV → List PV
  | .agg cs => cs
  | v => [v]
def PV.whole : PV → Bool
  | .tuple _ | .dead => false
  | _ => true
def splice (cells : List PV) (off : Nat) (vs : List PV) : List PV := cells.take off ++ vs ++ cells.drop (off + vs.length)
def fillA (place : Nat → Option (Nat × Nat)) (cells : List PV) : List (Nat × PV) → Option (List PV)
  | [] => some cells
  | (i, v) :: rest => match place i with
    | none => none
    | some (off, size) => if v.cellsOf.length = size ∧ off + v.cellsOf.length ≤ cells.length ∧ v.whole = true then fillA place (splice cells off v.cellsOf) rest else none
section
variable {P : Program} {g : Gh} {w : World}
omit [Glob] in
theorem splice_length {cells : List PV} {off : Nat} {vs : List PV} (h : off + vs.length ≤ cells.length) : (splice cells off vs).length = cells.length := by
  simp [splice]; omega
omit [Glob] in
theorem setRange (vs : List Value) : ∀ (off s : Nat) (cells : Array Value),
    ((vs.zipIdx s).foldl (fun cs (x : Value × Nat) => cs.setIfInBounds (off + x.2) x.1) cells).size = cells.size ∧
    ∀ k, k < cells.size → ((vs.zipIdx s).foldl (fun cs (x : Value × Nat) => cs.setIfInBounds (off + x.2) x.1) cells).getD k undef = if off + s ≤ k ∧ k < off + s + vs.length then vs.getD (k - (off + s)) undef else cells.getD k undef := by
  induction vs with
  | nil => intro off s cells; simp; intro k _ h1 h2; omega
  | cons v vs ih =>
    intro off s cells
    simp only [List.zipIdx_cons, List.foldl_cons]
    obtain ⟨h1, h2⟩ := ih off (s + 1) (cells.setIfInBounds (off + s) v)
    refine ⟨by rw [h1]; simp, fun k hk => ?_⟩
    rw [h2 k (by simpa using hk)]
    by_cases hks : k = off + s
    · subst hks
      rw [if_neg (by omega), if_pos (by simp)]
      simp [Array.getD_eq_getD_getElem?, hk]
    · simp only [List.length_cons]
      by_cases hr : off + (s + 1) ≤ k ∧ k < off + (s + 1) + vs.length
      · rw [if_pos hr, if_pos (by omega)]
        have e : k - (off + s) = (k - (off + (s + 1))) + 1 := by omega
        rw [e]; simp
      · rw [if_neg hr, if_neg (by omega)]
        simp only [Array.getD_eq_getD_getElem?]
        rw [Array.getElem?_setIfInBounds, if_neg (by omega)]
omit [Glob] in
theorem splice_ok {cells : List PV} {cv : Array Value} (hc : RL P g cells cv) {vs : List PV} {vv : Array Value} (hv : RL P g vs vv) {off : Nat} (hle : off + vs.length ≤ cells.length) :
    RL P g (splice cells off vs) (vv.zipIdx.foldl (fun cs (x : Value × Nat) => cs.setIfInBounds (off + x.2) x.1) cv) := by
  have e : vv.zipIdx.foldl (fun cs (x : Value × Nat) => cs.setIfInBounds (off + x.2) x.1) cv = (vv.toList.zipIdx 0).foldl (fun cs (x : Value × Nat) => cs.setIfInBounds (off + x.2) x.1) cv := by
    rw [← Array.foldl_toList]; simp
  rw [e]
  obtain ⟨h1, h2⟩ := setRange vv.toList off 0 cv
  refine ⟨by rw [h1, splice_length hle]; exact hc.1, fun j hj => ?_⟩
  rw [splice_length hle] at hj
  rw [h2 j (by rw [hc.1]; exact hj)]
  have hvl : vv.toList.length = vs.length := by simpa using hv.1
  simp only [Nat.add_zero, hvl]
  by_cases hr : off ≤ j ∧ j < off + vs.length
  · rw [if_pos hr]
    have e2 : (splice cells off vs)[j]'(by rw [splice_length hle]; exact hj) = vs[j - off]'(by omega) := by
      simp only [splice]
      rw [List.getElem_append_left (by simp; omega), List.getElem_append_right (by simp; omega)]
      congr 1; simp; omega
    rw [e2]
    have := hv.2 (j - off) (by omega)
    have h3 : j - off < vv.size := by rw [hv.1]; omega
    simpa [Array.getD, h3, List.getD, h3] using this
  · rw [if_neg hr]
    have e2 : (splice cells off vs)[j]'(by rw [splice_length hle]; exact hj) = cells[j] := by
      simp only [splice]
      by_cases hlt : j < off
      · rw [List.getElem_append_left (by simp; omega), List.getElem_append_left (by simp; omega)]; simp
      · rw [List.getElem_append_right (by simp; omega)]
        simp only [List.getElem_drop]
        congr 1; simp; omega
    rw [e2]
    exact hc.2 j hj
omit [Glob] in
theorem cells_R {p : PV} {v : Value} (h : R P g p v) (hw : p.whole = true) : RL P g p.cellsOf v.cells := by
  have one : ∀ {p : PV} {v : Value}, R P g p v → RL P g [p] #[v] := fun h => ⟨rfl, fun j hj => by
    match j, hj with
    | 0, _ => exact h⟩
  cases h with
  | agg cs vs hl hr => exact ⟨hl, hr⟩
  | tuple cs vs hl hr => simp [PV.whole] at hw
  | dead v => simp [PV.whole] at hw
  | bool b => exact one (.bool b)
  | int k n => exact one (.int k n)
  | str s => exact one (.str s)
  | nilp => exact one .nilp
  | ptr id off b N T h => exact one (.ptr id off b N T h)
  | vptr cs b off arr T fr h hn hp hr => exact one (.vptr cs b off arr T fr h hn hp hr)
  | kptr b o => exact one (.kptr b o)
  | rows0 e a cap => exact one (.rows0 e a cap)
  | emp a => exact one (.emp a)
  | rows e r b off cap arr T fr h hes hc hn hl hp hce hr => exact one (.rows e r b off cap arr T fr h hes hc hn hl hp hce hr)
  | sl e id off len cap b N T h hlc hc => exact one (.sl e id off len cap b N T h hlc hc)
  | sl0 e id off a b T h => exact one (.sl0 e id off a b T h)
  | map id b N T h => exact one (.map id b N T h)
  | nilm => exact one .nilm
  | nilfn => exact one .nilfn
  | fn f a c va vc ha hc h1 h2 => exact one (.fn f a c va vc ha hc h1 h2)
  | nilif => exact one .nilif
  | iface t v u h => exact one (.iface t v u h)
omit [Glob] in
theorem fill_ok {place : Nat → Option (Nat × Nat)} (parts : List (Nat × PV)) : ∀ (vparts : List (Nat × Value)) (cells : List PV) (cv : Array Value) (out : List PV), vparts.length = parts.length →
    (∀ j (h1 : j < parts.length) (h2 : j < vparts.length), parts[j].1 = vparts[j].1 ∧ R P g parts[j].2 vparts[j].2) → RL P g cells cv → fillA place cells parts = some out →
    ∃ ov, Instr.fill place cv vparts = some ov ∧ RL P g out ov := by
  induction parts with
  | nil =>
    intro vparts cells cv out hl _ hc h
    have : vparts = [] := List.eq_nil_of_length_eq_zero (by simpa using hl)
    subst this
    simp only [fillA, Option.some.injEq] at h
    subst h
    exact ⟨cv, rfl, hc⟩
  | cons p parts ih =>
    intro vparts cells cv out hl hr hc h
    obtain ⟨i, v⟩ := p
    cases vparts with
    | nil => simp at hl
    | cons q vparts =>
      obtain ⟨i', u⟩ := q
      obtain ⟨e0, r0⟩ := hr 0 (by simp) (by simp)
      simp only [List.getElem_cons_zero] at e0 r0
      subst e0
      unfold fillA at h
      unfold Instr.fill
      cases hpl : place i with
      | none => rw [hpl] at h; cases h
      | some os =>
        obtain ⟨off, size⟩ := os
        rw [hpl] at h
        simp only at h ⊢
        split at h
        · rename_i hcond
          obtain ⟨hs, hle, hnt⟩ := hcond
          have hcr := cells_R r0 hnt
          have h1 : ¬ (u.cells.size ≠ size ∨ off + u.cells.size > cv.size) := by
            rw [hcr.1, hc.1]; omega
          rw [if_neg (by simpa using h1)]
          exact ih vparts _ _ out (by simpa using hl) (fun j k1 k2 => hr (j + 1) (Nat.succ_lt_succ k1) (Nat.succ_lt_succ k2)) (splice_ok hc hcr hle) h
        · cases h
def placesA (P : Program) (t : TypeId) : Option (Nat → Option (Nat × Nat)) :=
  match P.underlying t with
  | some (.struct fs) => if fs.toList.all (fun f => (P.info? f.type).isSome) then some fun i => (fs[i]?).map fun f => (f.offset, P.cellsOf f.type) else none
  | some (.array _ e) => if (P.info? e).isSome then some fun i => some (i * P.cellsOf e, P.cellsOf e) else none
  | _ => none
def buildA (P : Program) (t : TypeId) (parts : List (Nat × PV)) : Option PV :=
  match zeroA P t, placesA P t with
  | some (.agg z), some pl => (fillA pl z parts).map .agg
  | _, _ => none
omit [Glob] in
theorem run_places (fs : List Field) (h : fs.all (fun f => (P.info? f.type).isSome) = true) :
    (fs.mapM (fun f => do pure (f.offset, ← Go.sizeOf f.type) : Field → Sem (Nat × Nat))).run P w = .ok (fs.map fun f => (f.offset, P.cellsOf f.type)) w := by
  induction fs with
  | nil => rfl
  | cons f fs ih =>
    simp only [List.all_cons, Bool.and_eq_true] at h
    obtain ⟨i, hi⟩ := Option.isSome_iff_exists.1 h.1
    have hs : (Go.sizeOf f.type).run P w = .ok (P.cellsOf f.type) w := by simp [Go.sizeOf, typeInfo, hi, Program.cellsOf]
    simp only [List.mapM_cons, Sem.run_bind, hs, Result.andThen_ok, Sem.run_pure, ih h.2, List.map_cons]
omit [Glob] in
theorem build_ok {t : TypeId} {parts : List (Nat × PV)} {vparts : Array (Nat × Value)} {q : PV} (hl : vparts.toList.length = parts.length)
    (hr : ∀ j (h1 : j < parts.length) (h2 : j < vparts.toList.length), parts[j].1 = vparts.toList[j].1 ∧ R P g parts[j].2 vparts.toList[j].2) (h : buildA P t parts = some q) :
    ∃ u, (Instr.build t vparts).run P w = .ok u w ∧ R P g q u := by
  unfold buildA at h
  split at h
  · rename_i z pl hz hpl
    simp only [Option.map_eq_some_iff] at h
    obtain ⟨out, hf, rfl⟩ := h
    obtain ⟨zv, e, hzr⟩ := zero_ok (P := P) (g := g) (w := w) hz
    cases hzr with
    | agg _ zs hzl hzr =>
      unfold placesA at hpl
      split at hpl
      · rename_i fs hu
        split at hpl
        · rename_i hall
          injection hpl with hpl; subst hpl
          have hm : (fs.mapM (fun f => do pure (f.offset, ← Go.sizeOf f.type) : Field → Sem (Nat × Nat))).run P w = .ok (fs.map fun f => (f.offset, P.cellsOf f.type)) w := by
            rw [Array.mapM_eq_mapM_toList, Sem.run_map, run_places fs.toList hall]
            simp only [Result.andThen_ok, Result.ok.injEq, and_true]
            rw [← Array.toList_map]
          obtain ⟨ov, e1, e2⟩ := fill_ok (P := P) (g := g) parts vparts.toList z zs out hl hr ⟨hzl, hzr⟩ hf
          have hpe : (fun (i : Nat) => (fs.map fun (f : Field) => (f.offset, P.cellsOf f.type))[i]?) = (fun (i : Nat) => (fs[i]?).map fun (f : Field) => (f.offset, P.cellsOf f.type)) := by funext i; simp
          refine ⟨.agg ov, ?_, .agg _ _ e2.1 e2.2⟩
          simp only [Instr.build, Sem.run_bind, e, Result.andThen_ok, run_underlying hu, hm, Value.cells]
          rw [hpe, e1]; rfl
        · cases hpl
      · rename_i n el hu
        split at hpl
        · rename_i hs
          injection hpl with hpl; subst hpl
          obtain ⟨i, hi⟩ := Option.isSome_iff_exists.1 hs
          have hsz : (Go.sizeOf el).run P w = .ok (P.cellsOf el) w := by simp [Go.sizeOf, typeInfo, hi, Program.cellsOf]
          obtain ⟨ov, e1, e2⟩ := fill_ok (P := P) (g := g) parts vparts.toList z zs out hl hr ⟨hzl, hzr⟩ hf
          refine ⟨.agg ov, ?_, .agg _ _ e2.1 e2.2⟩
          simp only [Instr.build, Sem.run_bind, e, Result.andThen_ok, run_underlying hu, hsz, Value.cells]
          rw [e1]; rfl
        · cases hpl
      · cases hpl
  · cases h
end
end Sg
namespace Sg
open Go
set_option linter.unusedSectionVars false
variable [Glob]
def evs (env : Env) : List Operand → Option (List PV)
  | [] => some []
  | x :: r => match ev env x, evs env r with
    | some p, some q => some (p :: q)
    | _, _ => none
def evParts (env : Env) : List (Nat × Operand) → Option (List (Nat × PV))
  | [] => some []
  | (i, x) :: r => match ev env x, evParts env r with
    | some p, some q => some ((i, p) :: q)
    | _, _ => none
def evO (env : Env) : Option Operand → Option (Option PV)
  | none => some none
  | some x => (ev env x).map some
def nilCmp2 (P : Program) (op : BinOp) (t : TypeId) : Option PV → Option PV
  | some (.sl _ _ _ n) => match P.underlying t, op with
    | some (.slice _), .eql => if 0 < n then some (.bool false) else none
    | some (.slice _), .neq => if 0 < n then some (.bool true) else none
    | _, _ => none
  | some (.rows _ r) => match P.underlying t, op with
    | some (.slice _), .eql => if 0 < r.length then some (.bool false) else none
    | some (.slice _), .neq => if 0 < r.length then some (.bool true) else none
    | _, _ => none
  | _ => none
def nilCmp (P : Program) (op : BinOp) (t : TypeId) (xo : Option PV) : Operand → Option PV
  | .const (.slice none 0 0) => nilCmp2 P op t xo
  | _ => none
omit [Glob] in
theorem equalIn_slnil {P : Program} {w : World} (d : Nat) (t e : TypeId) (ad : Addr) (n c : Nat) (hu : P.underlying t = some (.slice e)) : (Op.equalIn (d + 1) t (.slice (some ad) n c) (.slice none 0 0)).run P w = .ok false w := by
  simp [Op.equalIn, run_underlying hu]
theorem nilCmp_ok {P : Program} {g : Gh} {N : Nat} {st : St} {a : Act} {w : World} (ha : RA P g N st a) {op : BinOp} {t : TypeId} {x y : Operand} {p : PV} (h : nilCmp P op t (ev st.env x) y = some p) :
    ∃ r, (do eqGuard op t x y (a.eval x) (a.eval y); binOp op t (a.eval x) (a.eval y) : Sem Value).run P w = .ok r w ∧ R P g p r := by
  unfold nilCmp at h
  split at h
  · have hy : a.eval (.const (.slice none 0 0)) = .slice none 0 0 := rfl
    rw [hy]
    have main : ∀ (ad : Addr) (n c : Nat) (e : TypeId) (b : Bool), a.eval x = .slice (some ad) n c → P.underlying t = some (.slice e) → ((op = .eql ∧ b = false) ∨ (op = .neq ∧ b = true)) → ∃ r, (do eqGuard op t x (.const (.slice none 0 0)) (a.eval x) (.slice none 0 0); binOp op t (a.eval x) (.slice none 0 0) : Sem Value).run P w = .ok r w ∧ R P g (.bool b) r := by
      intro ad n c e b hx hu hop
      have he : (Op.equalIn 10000 t (.slice (some ad) n c) (.slice none 0 0)).run P w = .ok false w := equalIn_slnil 9999 t e ad n c hu
      rw [hx]
      rcases hop with ⟨rfl, rfl⟩ | ⟨rfl, rfl⟩
      · exact ⟨.bool false, by rw [Sem.run_bind, guard_none _ _ _ _ _ _ (by simp) (by simp)]; exact run_eql_of rfl he, .bool _⟩
      · exact ⟨.bool (!false), by rw [Sem.run_bind, guard_none _ _ _ _ _ _ (by simp) (by simp)]; exact run_neq_of rfl he, .bool _⟩
    unfold nilCmp2 at h
    split at h
    · rename_i e0 id off n hx
      have hr := R_ev ha hx
      generalize hv : a.eval x = v at hr
      split at h
      · rename_i e hu
        split at h
        · rename_i hn
          injection h with h; subst h
          cases hr with
          | sl _ _ _ _ cap b N T hio h1 h2 => rw [← hv]; exact main _ _ _ _ _ hv hu (.inl ⟨rfl, rfl⟩)
          | sl0 _ _ _ a b T hio => omega
        · cases h
      · rename_i e hu
        split at h
        · rename_i hn
          injection h with h; subst h
          cases hr with
          | sl _ _ _ _ cap b N T hio h1 h2 => rw [← hv]; exact main _ _ _ _ _ hv hu (.inr ⟨rfl, rfl⟩)
          | sl0 _ _ _ a b T hio => omega
        · cases h
      · cases h
    · rename_i e0 r hx
      have hr := R_ev ha hx
      generalize hv : a.eval x = v at hr
      split at h
      · rename_i e hu
        split at h
        · rename_i hn
          injection h with h; subst h
          cases hr with
          | rows0 => simp at hn
          | rows _ _ b off cap arr T fr k1 k2 k3 k4 k5 k6 k7 k8 => rw [← hv]; exact main _ _ _ _ _ hv hu (.inl ⟨rfl, rfl⟩)
        · cases h
      · rename_i e hu
        split at h
        · rename_i hn
          injection h with h; subst h
          cases hr with
          | rows0 => simp at hn
          | rows _ _ b off cap arr T fr k1 k2 k3 k4 k5 k6 k7 k8 => rw [← hv]; exact main _ _ _ _ _ hv hu (.inr ⟨rfl, rfl⟩)
        · cases h
      · cases h
    · cases h
  · cases h
def stepV (P : Program) (σ : Store) (env : Env) : Op → Option PV
  | .move x | .assign x => ev env x
  | .pick c a b => match ev env c with
    | some (.bool true) => ev env a
    | some (.bool false) => ev env b
    | _ => none
  | .build t parts => match evParts env parts.toList with
    | some ps => buildA P t ps
    | none => none
  | .load t a => match ev env a with
    | some p => loadA P σ t p
    | none => none
  | .nilCheck x => match ev env x with
    | some p => nilCheckA p
    | none => none
  | .binOp op t x y _ => match nilCmp P op t (ev env x) y with
    | some p => some p
    | none => match ev env x, ev env y with
    | some p, some q => binOpA P op t x y p q
    | _, _ => none
  | .unOp op _ x => match ev env x with
    | some p => unOpA op p
    | none => none
  | .convert s d x => match ev env x with
    | some p => convX P σ s d p
    | none => none
  | .sliceToArrayPointer t x => match ev env x with
    | some p => arrPtrA P t p
    | none => none
  | .makeInterface t x => match ev env x with
    | some p => ifaceA P t p
    | none => none
  | .makeFunc f a c => match evs env a.toList, evs env c.toList with
    | some p, some q => some (.fn f p q)
    | _, _ => none
  | .slice t x lo hi none => match ev env x, evO env lo, evO env hi with
    | some p, some l, some h => sliceA P σ t p l h
    | _, _, _ => none
  | .slice t x lo hi (some mx) => match ev env x, evO env lo, evO env hi, ev env mx with
    | some p, some l, some h, some m => slice0A P t p l h m
    | _, _, _, _ => none
  | .fieldAddr s x f => match ev env x with
    | some p => fieldAddrA P s f p
    | none => none
  | .field t x f => match ev env x with
    | some p => fieldA P t f p
    | none => none
  | .indexAddr t x i => match ev env x, ev env i with
    | some p, some (.int _ n) => indexAddrA P t p n
    | _, _ => none
  | .index t x i => match ev env x, ev env i with
    | some p, some (.int _ n) => indexA P t p n
    | _, _ => none
  | .lookup t x k ok => match ev env x, ev env k with
    | some m, some k => lookupA P σ t ok m k
    | _, _ => none
  | .typeAssert x _ t ok => match ev env x with
    | some p => assertA P t ok p
    | none => none
  | .extract x i => match ev env x with
    | some p => extractA i p
    | none => none
  | .call { callee := .builtin .len, args := ⟨[x]⟩, argTypes := ⟨[t]⟩ } => match ev env x with
    | some p => lenA P σ t p
    | none => none
  | .call { callee := .builtin .max, args := ⟨[x, y]⟩, .. } => match ev env x, ev env y with
    | some p, some q => minMaxA true [p, q]
    | _, _ => none
  | .call { callee := .builtin .min, args := ⟨[x, y]⟩, .. } => match ev env x, ev env y with
    | some p, some q => minMaxA false [p, q]
    | _, _ => none
  | _ => none
section
variable {P : Program} {r : Option Nat} {N : Nat}
theorem evs_ok {g : Gh} {st : St} {a : Act} (ha : RA P g N st a) : (l : List Operand) → (q : List PV) → evs st.env l = some q → RL P g q (l.map a.eval).toArray
  | [], q, h => by simp [evs] at h; subst h; exact ⟨rfl, fun j hj => by simp at hj⟩
  | x :: l, q, h => by
    simp only [evs] at h
    split at h
    · rename_i p q' hp hq
      injection h with h; subst h
      obtain ⟨h1, h2⟩ := evs_ok ha l q' hq
      refine ⟨by simpa using h1, fun j hj => ?_⟩
      cases j with
      | zero => simpa using R_ev ha hp
      | succ j =>
        have hj' : j < q'.length := by simpa using hj
        have hl : j < l.length := by
          have : l.length = q'.length := by simpa using h1
          omega
        have := h2 j hj'
        simpa [Array.getD, hl] using this
    · cases h
theorem evParts_ok {g : Gh} {st : St} {a : Act} (ha : RA P g N st a) : (l : List (Nat × Operand)) → (q : List (Nat × PV)) → evParts st.env l = some q →
    (l.map fun x => (x.1, a.eval x.2)).length = q.length ∧ ∀ j (h1 : j < q.length) (h2 : j < (l.map fun x => (x.1, a.eval x.2)).length), q[j].1 = (l.map fun x => (x.1, a.eval x.2))[j].1 ∧ R P g q[j].2 (l.map fun x => (x.1, a.eval x.2))[j].2
  | [], q, h => by simp [evParts] at h; subst h; simp
  | (i, x) :: l, q, h => by
    simp only [evParts] at h
    split at h
    · rename_i p q' hp hq
      injection h with h; subst h
      obtain ⟨h1, h2⟩ := evParts_ok ha l q' hq
      refine ⟨by simpa using h1, fun j k1 k2 => ?_⟩
      cases j with
      | zero => exact ⟨rfl, R_ev ha hp⟩
      | succ j => exact h2 j (by simpa using k1) (by simpa using k2)
    · cases h
theorem evO_ok {g : Gh} {st : St} {a : Act} (ha : RA P g N st a) (x : Option Operand) (q : Option PV) (h : evO st.env x = some q) : RO P g q (x.map a.eval) := by
  cases x with
  | none => simp only [evO, Option.some.injEq] at h; subst h; trivial
  | some x =>
    simp only [evO, Option.map_eq_some_iff] at h
    obtain ⟨p, hp, rfl⟩ := h
    exact R_ev ha hp
omit [Glob] in
theorem resolve_builtin (ρ : Operand → Value) (b : Builtin) (args : Array Operand) (ts : Array TypeId) (t : TypeId) (w : World) :
    (do let d ← resolve ρ { callee := .builtin b, args, argTypes := ts } t; invoke d.target d.args : Sem Next).run P w = (builtin b ts t (args.map fun | .const _ => true | _ => false) (args.map ρ)).run P w := rfl
theorem stepV_ok {o : Oper} {st : St} {p : PV} (h : stepV P st.σ st.env o.op = some p) {g : Gh} {w : World} {a : Act} (ha : RA P g N st a) (hi : Inv P g st.σ w) :
    ∃ v, (execOp a.eval o).run P w = .ok (.value v) w ∧ R P g p v := by
  have lift : ∀ {s : Sem Value}, (∃ v, s.run P w = .ok v w ∧ R P g p v) → ∃ v, (do pure (.value (← s)) : Sem Next).run P w = .ok (.value v) w ∧ R P g p v := by
    rintro s ⟨v, e, hr⟩; exact ⟨v, by simp [e], hr⟩
  unfold stepV at h
  split at h
  · rename_i x ho; exact ⟨_, by simp [execOp, ho], R_ev ha h⟩
  · rename_i x ho; exact ⟨_, by simp [execOp, ho], R_ev ha h⟩
  · rename_i c x y ho
    split at h
    · rename_i hc
      have := R_ev ha hc
      generalize hv : a.eval c = v at this
      cases this
      exact ⟨a.eval x, by simp [execOp, ho, hv, asBool], R_ev ha h⟩
    · rename_i hc
      have := R_ev ha hc
      generalize hv : a.eval c = v at this
      cases this
      exact ⟨a.eval y, by simp [execOp, ho, hv, asBool], R_ev ha h⟩
    · cases h
  · rename_i t parts ho
    split at h
    · rename_i ps hps
      obtain ⟨h1, h2⟩ := evParts_ok ha parts.toList ps hps
      have := lift (build_ok (P := P) (g := g) (w := w) (vparts := parts.map fun (i, x) => (i, a.eval x)) (by simpa using h1) (by simpa using h2) h)
      simpa [execOp, ho] using this
    · cases h
  · rename_i t x ho
    split at h
    · rename_i q hq
      have := lift (loadA_ok hi (R_ev ha hq) h)
      simpa [execOp, ho] using this
    · cases h
  · rename_i x ho
    split at h
    · rename_i q hq
      have hr := R_ev ha hq
      unfold nilCheckA at h
      split at h <;> first | (cases h; done) | skip
      all_goals
        injection h with h; subst h
        generalize hv : a.eval x = v at hr
        cases hr
        refine ⟨_, by simp only [execOp, ho, hv]; rfl, ?_⟩
        first
          | exact .ptr _ _ _ _ _ (by assumption)
          | (apply R.vptr <;> assumption)
          | exact .iface _ _ _ (by assumption)
          | (apply R.fn <;> assumption)
    · cases h
  · rename_i op t x y yt ho
    split at h
    · rename_i q hq
      injection h with h; subst h
      have := lift (nilCmp_ok (x := x) (y := y) (w := w) ha hq)
      simpa [execOp, ho] using this
    · split at h
      · rename_i q1 q2 h1 h2
        have := lift (binOp_ok (x := x) (y := y) (w := w) (R_ev ha h1) (R_ev ha h2) h)
        simpa [execOp, ho] using this
      · cases h
  · rename_i op t x ho
    split at h
    · rename_i q hq
      have := lift (unOp_ok (P := P) (w := w) (R_ev ha hq) h)
      simpa [execOp, ho] using this
    · cases h
  · rename_i s d x ho
    split at h
    · rename_i q hq
      have := lift (convX_ok (P := P) (w := w) hi (R_ev ha hq) h)
      simpa [execOp, ho] using this
    · cases h
  · rename_i t x ho
    split at h
    · rename_i q hq
      have := lift (arrPtr_ok (P := P) (w := w) (R_ev ha hq) h)
      simpa [execOp, ho] using this
    · cases h
  · rename_i t x ho
    split at h
    · rename_i q hq
      have := lift (iface_ok (P := P) (w := w) (R_ev ha hq) h)
      simpa [execOp, ho] using this
    · cases h
  · rename_i f x c ho
    split at h
    · rename_i q1 q2 h1 h2
      injection h with h; subst h
      have e1 := evs_ok ha _ _ h1
      have e2 := evs_ok ha _ _ h2
      refine ⟨.func f (x.map a.eval) (c.map a.eval), by simp [execOp, ho, Instr.makeFunc], ?_⟩
      have hx : (x.toList.map a.eval).toArray = x.map a.eval := by rw [← Array.toList_map]
      have hc : (c.toList.map a.eval).toArray = c.map a.eval := by rw [← Array.toList_map]
      rw [hx] at e1; rw [hc] at e2
      exact .fn f _ _ _ _ e1.1 e2.1 e1.2 e2.2
    · cases h
  · rename_i t x lo hh ho
    split at h
    · rename_i q l hh' h1 h2 h3
      have := lift (slice_ok (P := P) (w := w) hi (R_ev ha h1) (evO_ok ha _ _ h2) (evO_ok ha _ _ h3) h)
      simpa [execOp, ho] using this
    · cases h
  · rename_i t x lo hh mx ho
    split at h
    · rename_i q l hh' m h1 h2 h3 h4
      have := lift (slice0_ok (P := P) (w := w) (R_ev ha h1) (R_ev ha h4) (evO_ok ha _ _ h2) (evO_ok ha _ _ h3) h)
      simpa [execOp, ho] using this
    · cases h
  · rename_i s x f ho
    split at h
    · rename_i q hq
      have := lift (fieldAddr_ok (P := P) (w := w) (R_ev ha hq) h)
      simpa [execOp, ho] using this
    · cases h
  · rename_i t x f ho
    split at h
    · rename_i q hq
      have := lift (field_ok (P := P) (w := w) (R_ev ha hq) h)
      simpa [execOp, ho] using this
    · cases h
  · rename_i t x i ho
    split at h
    · rename_i q k n h1 h2
      have hv := asIntOf_R (R_ev ha h2) rfl
      have := lift (indexAddr_ok (P := P) (w := w) (k := k) (R_ev ha h1) h)
      simpa [execOp, ho, hv] using this
    · cases h
  · rename_i t x i ho
    split at h
    · rename_i q k n h1 h2
      have hv := asIntOf_R (R_ev ha h2) rfl
      have := lift (index_ok (P := P) (w := w) (k := k) (R_ev ha h1) h)
      simpa [execOp, ho, hv] using this
    · cases h
  · rename_i t x k ok ho
    split at h
    · rename_i m k' h1 h2
      have := lift (lookup_ok (P := P) (w := w) hi (R_ev ha h1) (R_ev ha h2) h)
      simpa [execOp, ho] using this
    · cases h
  · rename_i x xt t ok ho
    split at h
    · rename_i q hq
      have := lift (assert_ok (P := P) (w := w) (xt := xt) (R_ev ha hq) h)
      simpa [execOp, ho] using this
    · cases h
  · rename_i x i ho
    split at h
    · rename_i q hq
      have := lift (extract_ok (P := P) (w := w) (R_ev ha hq) h)
      simpa [execOp, ho] using this
    · cases h
  · rename_i x t ho
    split at h
    · rename_i q hq
      have := lift (len_ok (P := P) (w := w) (ty := o.type) hi (R_ev ha hq) h)
      obtain ⟨v, e, hr⟩ := this
      refine ⟨v, ?_, hr⟩
      unfold execOp
      simp only [ho]
      rw [resolve_builtin]
      simpa [builtin] using e
    · cases h
  · rename_i x y ts ho
    split at h
    · rename_i q1 q2 h1 h2
      have hl := evs_ok ha [x, y] [q1, q2] (by simp [evs, h1, h2])
      have := lift (max_ok (P := P) (w := w) (t := ts) (ty := o.type) hl h)
      obtain ⟨v, e, hr⟩ := this
      refine ⟨v, ?_, hr⟩
      unfold execOp
      simp only [ho]
      rw [resolve_builtin]
      simpa [builtin] using e
    · cases h
  · rename_i x y ts ho
    split at h
    · rename_i q1 q2 h1 h2
      have hl := evs_ok ha [x, y] [q1, q2] (by simp [evs, h1, h2])
      have := lift (min_ok (P := P) (w := w) (t := ts) (ty := o.type) hl h)
      obtain ⟨v, e, hr⟩ := this
      refine ⟨v, ?_, hr⟩
      unfold execOp
      simp only [ho]
      rw [resolve_builtin]
      simpa [builtin] using e
    · cases h
  · cases h
theorem OpA_val {o : Oper} {st : St} {K : St → Prop} {X : PV → St → Prop} {p : PV} (h : stepV P st.σ st.env o.op = some p) (hd : dstOk N o.dst = true) (hk : K { st with env := put st.env o.dst p }) : OpA P r N o st K X := by
  refine OpA_run ?_ p st.σ hd (fun g w a ha hi => ?_) hk
  · intro c hc
    rw [hc] at h
    simp [stepV] at h
  · obtain ⟨v, e, hr⟩ := stepV_ok h ha hi
    exact ⟨g, v, w, e, .refl g, hr, hi, .refl w⟩
end
end Sg
namespace Sg
open Go
set_option linter.unusedSectionVars false
variable [Glob]
section
variable {P : Program} {g : Gh} {w : World}
omit [Glob] in
theorem heap_setCells (b : Nat) : ∀ (vs : List Value) (o s : Nat) (w : World) (arr : Array Value) (T : TypeId), w.heap[b]? = some (.cells arr T (0, 0)) →
    (w.setCells b (o + s) vs).heap[b]? = some (.cells ((vs.zipIdx s).foldl (fun cs (x : Value × Nat) => cs.setIfInBounds (o + x.2) x.1) arr) T (0, 0)) := by
  intro vs
  induction vs with
  | nil => intro o s w arr T h; exact h
  | cons v vs ih =>
    intro o s w arr T h
    simp only [World.setCells, List.zipIdx_cons, List.foldl_cons]
    have := heap_setCell_same w b (o + s) arr T v h
    exact ih o (s + 1) _ _ T this
omit [Glob] in
theorem heap_setCells_other (b : Nat) : ∀ (vs : List Value) (o : Nat) (w : World) (k : Nat), k ≠ b → (w.setCells b o vs).heap[k]? = w.heap[k]? := by
  intro vs
  induction vs with
  | nil => intro o w k _; rfl
  | cons v vs ih =>
    intro o w k hk
    simp only [World.setCells]
    rw [ih _ _ k hk]
    exact heap_setCell_other w ⟨b, o, none⟩ k v hk
omit [Glob] in
theorem heap_old (w : World) (o : Obj) (k : Nat) (h : k < w.heap.size) : (w.alloc o).heap[k]? = w.heap[k]? := by
  show (w.heap.push o)[k]? = _
  rw [Array.getElem?_push, if_neg (by omega)]
omit [Glob] in
theorem heap_new (w : World) (o : Obj) : (w.alloc o).heap[w.heap.size]? = some o := by
  show (w.heap.push o)[w.heap.size]? = _
  simp
omit [Glob] in
theorem frame_setCells (b : Nat) : ∀ (vs : List Value) (o : Nat) (w : World), Frame w (w.setCells b o vs) := by
  intro vs
  induction vs with
  | nil => intro o w; exact .refl w
  | cons v vs ih =>
    intro o w
    simp only [World.setCells]
    exact Frame.trans (b := w.setCell ⟨b, o, none⟩ v) ⟨rfl, rfl, rfl, by simp⟩ (ih _ _)
omit [Glob] in
theorem cell_one {p : PV} {v : Value} (h : R P g p v) (hc : p.cell = true) : v.oneCell' = true := by
  cases h <;> first | rfl | (simp [PV.cell] at hc)
omit [Glob] in
theorem splice_cell {cells : List PV} {off : Nat} {vs : List PV} (h1 : ∀ x ∈ cells, x.cell = true) (h2 : ∀ x ∈ vs, x.cell = true) : ∀ x ∈ splice cells off vs, x.cell = true := by
  intro x hx
  simp only [splice, List.mem_append] at hx
  rcases hx with (hx | hx) | hx
  · exact h1 x (List.mem_of_mem_take hx)
  · exact h2 x hx
  · exact h1 x (List.mem_of_mem_drop hx)
theorem Inv.turned {σ : Store} (hi : Inv P g σ w) {id b N : Nat} {T T' : TypeId} {cs cs' : List PV} (ho : σ.f id = some (.cells T' cs)) (hio : g.io id = some (b, N, T)) {w' : World} {arr' : Array Value}
    (h1 : w'.heap[b]? = some (.cells arr' T (0, 0))) (h2 : ∀ k, k ≠ b → w'.heap[k]? = w.heap[k]?) (hN : arr'.size = N) (h0 : 0 < N) (hl : cs'.length ≤ N)
    (hr : ∀ j (hj : j < cs'.length), R P g cs'[j] (arr'.getD j undef) ∧ cs'[j].cell = true) : Inv P g (σ.set id (.cells T cs')) w' := by
  have hH : g.H b = none := hi.dis id _ _ ho hio h0
  refine ⟨?_, ?_, ?_, ?_, hi.fr, hi.gl⟩
  · intro k o hk
    have : k ≠ b := by rintro rfl; rw [hH] at hk; cases hk
    rw [h2 k this]; exact hi.hH k o hk
  · intro i o hio'
    simp only [Store.set] at hio'
    split at hio'
    · rename_i e; subst e
      injection hio' with hio'; subst hio'
      exact ⟨b, arr', by rw [hN]; exact hio, .inr h1, by omega, hr⟩
    · rename_i hne
      have hobj := hi.obj i o hio'
      cases o with
      | cells T2 cs2 =>
        obtain ⟨b2, arr2, k1, k2, k3, k4⟩ := hobj
        refine ⟨b2, arr2, k1, ?_, k3, k4⟩
        rcases k2 with k2 | k2
        · exact .inl k2
        · by_cases hz : arr2.size = 0
          · exact .inl hz
          · have hb : b2 ≠ b := fun e => hne (hi.inj i id _ _ _ _ hio' ho k1 hio (Nat.pos_of_ne_zero hz) h0 e)
            exact .inr (by rw [h2 b2 hb]; exact k2)
      | map es =>
        obtain ⟨b2, ms, clock, k1, k2, k3⟩ := hobj
        have hb : b2 ≠ b := fun e => hne (hi.inj i id _ _ _ _ hio' ho k1 hio Nat.one_pos h0 e)
        exact ⟨b2, ms, clock, k1, by rw [h2 b2 hb]; exact k2, k3⟩
      | loop b2 d st pend fn N2 env ps as body =>
        obtain ⟨k1, tmps, k2, k3⟩ := hobj
        have hb : b2 ≠ b := fun e => hne (hi.inj i id _ _ _ _ hio' ho k1 hio Nat.one_pos h0 e)
        exact ⟨k1, tmps, by rw [h2 b2 hb]; exact k2, k3⟩
      | dfr b2 =>
        obtain ⟨k1, k2⟩ := hobj
        have hb : b2 ≠ b := fun e => hne (hi.inj i id _ _ _ _ hio' ho k1 hio Nat.one_pos h0 e)
        exact ⟨k1, by rw [h2 b2 hb]; exact k2⟩
  · intro i j o o' e e' hi' hj' a b' z1 z2 c
    simp only [Store.set] at hi' hj'
    have f1 : ∃ o, σ.f i = some o := by split at hi'; (subst_vars; exact ⟨_, ho⟩); exact ⟨_, hi'⟩
    have f2 : ∃ o, σ.f j = some o := by split at hj'; (subst_vars; exact ⟨_, ho⟩); exact ⟨_, hj'⟩
    obtain ⟨o1, f1⟩ := f1
    obtain ⟨o2, f2⟩ := f2
    exact hi.inj i j _ _ _ _ f1 f2 a b' z1 z2 c
  · intro i o e hi' a z
    simp only [Store.set] at hi'
    have f1 : ∃ o, σ.f i = some o := by split at hi'; (subst_vars; exact ⟨_, ho⟩); exact ⟨_, hi'⟩
    obtain ⟨o1, f1⟩ := f1
    exact hi.dis i _ _ f1 a z
def storeA (P : Program) (σ : Store) (t : TypeId) (addr p : PV) : Option Store :=
  match addr with
  | .ptr id off => match σ.f id, P.info? t with
    | some (.cells T cs), some i =>
      if p.whole = true ∧ p.cellsOf.length = i.size ∧ 0 < i.size ∧ off + i.size ≤ cs.length ∧ p.cellsOf.all PV.cell = true then some (σ.set id (.cells T (splice cs off p.cellsOf))) else none
    | _, _ => none
  | _ => none
theorem storeA_ok {σ σ' : Store} (hi : Inv P g σ w) {t : TypeId} {addr p : PV} {va v : Value} (hr : R P g addr va) (hp : R P g p v) (h : storeA P σ t addr p = some σ') :
    ∃ w', (Instr.storeAt t va v).run P w = .ok () w' ∧ Inv P g σ' w' ∧ Frame w w' := by
  unfold storeA at h
  split at h
  · rename_i id off
    cases hr with
    | ptr _ _ b N T hio =>
      split at h
      · rename_i T' cs i ho hinf
        split at h
        · rename_i hc
          obtain ⟨hw, hl, hpos, hle, hcell⟩ := hc
          injection h with h; subst h
          obtain ⟨rfl, arr, hN, hh, hcs, hrr⟩ := cells_at hi ho hio
          have hh := hh.resolve_left (by omega)
          have hvr := cells_R hp hw
          have hvl : v.cells.size = i.size := by rw [hvr.1, hl]
          have hall : ∀ x ∈ p.cellsOf, x.cell = true := fun x hx => List.all_eq_true.1 hcell x hx
          have hone : ∀ u ∈ v.cells.toList, u.oneCell' = true := by
            intro u hu
            obtain ⟨j, hj, rfl⟩ := List.getElem_of_mem hu
            have hj' : j < v.cells.size := by simpa using hj
            have hjp : j < p.cellsOf.length := by rw [← hvr.1]; exact hj'
            have := hvr.2 j hjp
            simp only [Array.getD, hj', dite_true] at this
            exact cell_one this (hall _ (List.getElem_mem hjp))
          have hst := run_storeCells_cells (P := P) b off v.cells.toList 0 w (fun j hj => by
              have hj' : j < v.cells.size := by simpa using hj
              rw [cell_of_row w b _ arr T (0, 0) hh]
              rw [Array.getElem?_eq_getElem (by omega)]; rfl)
            (fun j hj => frozen_of_row w b _ arr T hh) hone
          simp only [Nat.add_zero] at hst
          refine ⟨w.setCells b off v.cells.toList, ?_, ?_, frame_setCells b _ _ w⟩
          · simp [Instr.storeAt, Instr.sureAddr, storeVar, Go.sizeOf, typeInfo, hinf, hvl, hst]
          · have hh2 := heap_setCells b v.cells.toList off 0 w arr T hh
            simp only [Nat.add_zero] at hh2
            have e : v.cells.zipIdx.foldl (fun cs (x : Value × Nat) => cs.setIfInBounds (off + x.2) x.1) arr = (v.cells.toList.zipIdx 0).foldl (fun cs (x : Value × Nat) => cs.setIfInBounds (off + x.2) x.1) arr := by
              rw [← Array.foldl_toList]; simp
            have hsz : ((v.cells.toList.zipIdx 0).foldl (fun cs (x : Value × Nat) => cs.setIfInBounds (off + x.2) x.1) arr).size = arr.size := (setRange v.cells.toList off 0 arr).1
            refine hi.turned ho hio hh2 (fun k hk => heap_setCells_other b _ _ w k hk) (by rw [hsz]; exact hN) (by omega) (by rw [splice_length (by omega)]; omega) ?_
            intro j hj
            rw [splice_length (by omega)] at hj
            refine ⟨?_, splice_cell (fun x hx => ?_) hall _ (List.getElem_mem _)⟩
            · rw [(setRange v.cells.toList off 0 arr).2 j (by omega)]
              have hvl2 : v.cells.toList.length = p.cellsOf.length := by simpa using hvr.1
              simp only [Nat.add_zero, hvl2]
              by_cases hrg : off ≤ j ∧ j < off + p.cellsOf.length
              · rw [if_pos hrg]
                have e2 : (splice cs off p.cellsOf)[j]'(by rw [splice_length (by omega)]; exact hj) = p.cellsOf[j - off]'(by omega) := by
                  simp only [splice]
                  rw [List.getElem_append_left (by simp; omega), List.getElem_append_right (by simp; omega)]
                  congr 1; simp; omega
                rw [e2]
                have := hvr.2 (j - off) (by omega)
                have h3 : j - off < v.cells.size := by rw [hvr.1]; omega
                simpa [Array.getD, h3, List.getD, h3] using this
              · rw [if_neg hrg]
                have e2 : (splice cs off p.cellsOf)[j]'(by rw [splice_length (by omega)]; exact hj) = cs[j] := by
                  simp only [splice]
                  by_cases hlt : j < off
                  · rw [List.getElem_append_left (by simp; omega), List.getElem_append_left (by simp; omega)]; simp
                  · rw [List.getElem_append_right (by simp; omega)]
                    simp only [List.getElem_drop]
                    congr 1; simp; omega
                rw [e2]
                exact (hrr j hj).1
            · obtain ⟨j', hj', rfl⟩ := List.getElem_of_mem hx; exact (hrr j' hj').2
        · cases h
      · cases h
  · cases h
def Gh.add (g : Gh) (id : Nat) (e : Nat × Nat × TypeId) : Gh := { g with io := fun i => if i = id then some e else g.io i }
omit [Glob] in
theorem Gh.le_add {g : Gh} {id : Nat} {e : Nat × Nat × TypeId} (h : g.io id = none) : g.le (g.add id e) :=
  ⟨fun i e' hi => by
    have : i ≠ id := by rintro rfl; rw [h] at hi; cases hi
    simp [Gh.add, this, hi], fun _ _ h => h⟩
omit [Glob] in
theorem Gh.add_same {g : Gh} {id : Nat} {e : Nat × Nat × TypeId} : (g.add id e).io id = some e := by simp [Gh.add]
omit [Glob] in
theorem ObjOk.mono {g g' : Gh} (hg : g.le g') {w w' : World} {id : Nat} {o : AObj} (h : ObjOk P g w id o) (hw : ∀ k, k < w.heap.size → w'.heap[k]? = w.heap[k]?) : ObjOk P g' w' id o := by
  cases o with
  | cells T cs =>
    obtain ⟨b, arr, h1, h2, h3, h4⟩ := h
    exact ⟨b, arr, hg.io _ _ h1, h2.imp (fun h => h) (fun h2 => by rw [hw b (Array.getElem?_eq_some_iff.1 h2).1]; exact h2), h3, fun j hj => ⟨(h4 j hj).1.mono hg, (h4 j hj).2⟩⟩
  | map es =>
    obtain ⟨b, ms, clock, h1, h2, h3, h4⟩ := h
    exact ⟨b, ms, clock, hg.io _ _ h1, by rw [hw b (Array.getElem?_eq_some_iff.1 h2).1]; exact h2, h3, fun j hj => ⟨(h4 j hj).1.mono hg, (h4 j hj).2.1.mono hg, (h4 j hj).2.2⟩⟩
  | loop b d st pend fn N env ps as body =>
    obtain ⟨h1, tmps, h2, h3, h4⟩ := h
    exact ⟨hg.io _ _ h1, tmps, by rw [hw b (Array.getElem?_eq_some_iff.1 h2).1]; exact h2, h3, fun t p e => (h4 t p e).mono hg⟩
  | dfr b =>
    obtain ⟨h1, h2⟩ := h
    exact ⟨hg.io _ _ h1, by rw [hw b (Array.getElem?_eq_some_iff.1 h2).1]; exact h2⟩
theorem Inv.heapEq {σ : Store} (h : Inv P g σ w) {w' : World} (hw : w'.heap = w.heap) : Inv P g σ w' := by
  refine ⟨fun b o hb => by rw [hw]; exact h.hH b o hb, fun i o hi => ?_, h.inj, h.dis, h.fr, h.gl⟩
  exact (h.obj i o hi).mono (.refl g) (fun k _ => by rw [hw])
theorem Inv.alloc {σ : Store} (hi : Inv P g σ w) {id : Nat} (hfr : σ.fr id) (o : AObj) (ob : Obj) (N : Nat) (T : TypeId)
    (ho : ObjOk P (g.add id (w.heap.size, N, T)) (w.alloc ob) id o) : Inv P (g.add id (w.heap.size, N, T)) (σ.new id o) (w.alloc ob) := by
  have hnone := hi.fr id hfr
  have hle : g.le (g.add id (w.heap.size, N, T)) := Gh.le_add hnone
  have hHlt : ∀ b o, g.H b = some o → b < w.heap.size := fun b o hb => (Array.getElem?_eq_some_iff.1 (hi.hH b o hb)).1
  have hblt : ∀ i o e, σ.f i = some o → g.io i = some e → 0 < e.2.1 → e.1 < w.heap.size := by
    intro i o e h1 h2 hz
    have := hi.obj i o h1
    cases o with
    | cells T cs => obtain ⟨b, arr, k1, k2, _⟩ := this; rw [h2] at k1; injection k1 with k1; subst k1; exact (Array.getElem?_eq_some_iff.1 (k2.resolve_left (Nat.pos_iff_ne_zero.1 hz))).1
    | map es => obtain ⟨b, ms, c, k1, k2, _⟩ := this; rw [h2] at k1; injection k1 with k1; subst k1; exact (Array.getElem?_eq_some_iff.1 k2).1
    | loop b d st pend fn N env ps as body => obtain ⟨k1, tmps, k2, _⟩ := this; rw [h2] at k1; injection k1 with k1; subst k1; exact (Array.getElem?_eq_some_iff.1 k2).1
    | dfr b => obtain ⟨k1, k2⟩ := this; rw [h2] at k1; injection k1 with k1; subst k1; exact (Array.getElem?_eq_some_iff.1 k2).1
  have hold : ∀ i o, σ.f i = some o → i ≠ id := by
    rintro i o h1 rfl
    have := hi.obj i o h1
    cases o with
    | cells T cs => obtain ⟨b, arr, k1, _⟩ := this; rw [hnone] at k1; cases k1
    | map es => obtain ⟨b, ms, c, k1, _⟩ := this; rw [hnone] at k1; cases k1
    | loop b d st pend fn N env ps as body => obtain ⟨k1, _⟩ := this; rw [hnone] at k1; cases k1
    | dfr b => obtain ⟨k1, _⟩ := this; rw [hnone] at k1; cases k1
  refine ⟨?_, ?_, ?_, ?_, ?_, hi.gl.mono hle⟩
  · intro b ob' hb
    rw [heap_old w ob b (hHlt b ob' hb)]; exact hi.hH b ob' hb
  · intro i ob' hi'
    simp only [Store.new] at hi'
    split at hi'
    · rename_i e; subst e; injection hi' with hi'; subst hi'; exact ho
    · exact (hi.obj i ob' hi').mono hle (fun k hk => heap_old w ob k hk)
  · intro i j o1 o2 e1 e2 h1 h2 h3 h4 z1 z2 h5
    simp only [Store.new] at h1 h2
    simp only [Gh.add] at h3 h4
    split at h1
    · rename_i ei; subst ei
      rw [if_pos rfl] at h3; injection h3 with h3; subst h3
      split at h2
      · rename_i ej; exact ej.symm
      · rename_i ej
        rw [if_neg ej] at h4
        have := hblt j _ _ h2 h4 z2
        simp only at h5; omega
    · rename_i ei
      rw [if_neg ei] at h3
      split at h2
      · rename_i ej; subst ej
        rw [if_pos rfl] at h4; injection h4 with h4; subst h4
        have := hblt i _ _ h1 h3 z1
        simp only at h5; omega
      · rename_i ej
        rw [if_neg ej] at h4
        exact hi.inj i j _ _ _ _ h1 h2 h3 h4 z1 z2 h5
  · intro i o1 e1 h1 h3 z
    simp only [Store.new] at h1
    simp only [Gh.add] at h3
    split at h1
    · rename_i ei; subst ei
      rw [if_pos rfl] at h3; injection h3 with h3; subst h3
      show g.H w.heap.size = none
      cases hH : g.H w.heap.size with
      | none => rfl
      | some ob' => exact absurd (hHlt _ _ hH) (Nat.lt_irrefl _)
    · rename_i ei
      rw [if_neg ei] at h3
      exact hi.dis i _ _ h1 h3 z
  · intro i hfi
    simp only [Store.new] at hfi
    simp only [Gh.add, if_neg hfi.2]
    exact hi.fr i hfi.1
omit [Glob] in
theorem frame_alloc (w : World) (o : Obj) : Frame w (w.alloc o) := ⟨rfl, rfl, rfl, by simp⟩
omit [Glob] in
theorem frame_drew (w : World) : Frame w w.drew := ⟨rfl, rfl, rfl, Nat.le_refl _⟩
theorem Inv.allocCells {σ : Store} (hi : Inv P g σ w) {id : Nat} (hfr : σ.fr id) (T : TypeId) (cs : List PV) (arr : Array Value) (hl : cs.length ≤ arr.size)
    (hr : ∀ j (hj : j < cs.length), R P g cs[j] (arr.getD j undef) ∧ cs[j].cell = true) :
    g.le (g.add id (w.heap.size, arr.size, T)) ∧ Inv P (g.add id (w.heap.size, arr.size, T)) (σ.new id (.cells T cs)) (w.alloc (.cells arr T)) := by
  have hle : g.le (g.add id (w.heap.size, arr.size, T)) := Gh.le_add (hi.fr id hfr)
  exact ⟨hle, hi.alloc hfr _ _ _ _ ⟨w.heap.size, arr, Gh.add_same, .inr (heap_new w _), hl, fun j hj => ⟨(hr j hj).1.mono hle, (hr j hj).2⟩⟩⟩
end
end Sg
namespace Sg
open Go
set_option linter.unusedSectionVars false
variable [Glob]
def lk {α : Type} (i : Nat) : List (Nat × α) → Option α
  | [] => none
  | (k, v) :: r => if k = i then some v else lk i r
structure Out where
  v : PV
  u : List (Nat × Option AObj)
  nw : List (Nat × AObj)
def Store.after (σ : Store) (u : List (Nat × Option AObj)) (nw : List (Nat × AObj)) : Store :=
  { f := fun i => match lk i nw with
      | some o => some o
      | none => match lk i u with
        | some o => o
        | none => σ.f i
    fr := fun i => σ.fr i ∧ lk i nw = none }
def bytesOf (P : Program) (e : TypeId) : Nat := match P.info? e with
  | some i => i.bytes
  | none => 0
section
variable {P : Program} {r : Option Nat} {N : Nat}
omit [Glob] in
theorem whole_cells {g : Gh} {p : PV} {v : Value} (h : R P g p v) (hw : p.whole = true) : RL P g p.cellsOf v.cells := cells_R h hw
def rep (n : Nat) (z : List PV) : List PV := (List.replicate n z).flatten
omit [Glob] in
theorem rep_length (n : Nat) (z : List PV) : (rep n z).length = n * z.length := by simp [rep]
omit [Glob] in
theorem rep_get (z : List PV) : (n : Nat) → (j : Nat) → (hj : j < (rep n z).length) → ∃ (hz : j % z.length < z.length), (rep n z)[j] = z[j % z.length]
  | 0, j, hj => by simp [rep] at hj
  | n + 1, j, hj => by
    have e : rep (n + 1) z = z ++ rep n z := by simp [rep, List.replicate_succ]
    have hz0 : 0 < z.length := by
      rcases Nat.eq_zero_or_pos z.length with h | h
      · rw [rep_length, h] at hj; simp at hj
      · exact h
    by_cases h : j < z.length
    · refine ⟨Nat.mod_lt _ hz0, ?_⟩
      have h1 : (rep (n + 1) z)[j] = (z ++ rep n z)[j]'(by rw [← e]; exact hj) := by congr 1
      rw [h1, List.getElem_append_left h]
      congr 1
      exact (Nat.mod_eq_of_lt h).symm
    · have hj' : j - z.length < (rep n z).length := by
        have : (rep (n + 1) z).length = z.length + (rep n z).length := by rw [e]; simp
        omega
      obtain ⟨k1, k2⟩ := rep_get z n (j - z.length) hj'
      have hm : (j - z.length) % z.length = j % z.length := by
        rw [← Nat.mod_eq_sub_mod (by omega)]
      refine ⟨Nat.mod_lt _ hz0, ?_⟩
      have h1 : (rep (n + 1) z)[j] = (z ++ rep n z)[j]'(by rw [← e]; exact hj) := by congr 1
      rw [h1, List.getElem_append_right (by omega), k2]
      congr 1
omit [Glob] in
theorem madeCells_R {g : Gh} {z : PV} {zv : Value} (hr : R P g z zv) (hw : z.whole = true) (n k : Nat) (hk : n * z.cellsOf.length ≤ k) :
    ∀ j (hj : j < (rep n z.cellsOf).length), R P g (rep n z.cellsOf)[j] ((madeCells zv.cells k).getD j undef) := by
  intro j hj
  obtain ⟨h1, h2⟩ := whole_cells hr hw
  obtain ⟨hz, e⟩ := rep_get z.cellsOf n j hj
  rw [e]
  have hj' : j < k := by rw [rep_length] at hj; omega
  have hs : j % z.cellsOf.length < zv.cells.size := by omega
  have := h2 _ hz
  simp only [Array.getD, hs, dite_true] at this
  have e2 : (madeCells zv.cells k).getD j undef = zv.cells[j % z.cellsOf.length]'hs := by
    have h0 : 0 < zv.cells.size := by omega
    have hm : j % zv.cells.size = j % z.cellsOf.length := by rw [h1]
    simp [madeCells, Array.getD, hj', hm, hs]
  rw [e2]; exact this
omit [Glob] in
theorem R_int {g : Gh} {k : IntKind} {n : Int} {v : Value} (h : R P g (.int k n) v) : v = .int k n := by cases h; rfl
omit [Glob] in
theorem all_cell {l : List PV} (h : l.all PV.cell = true) (j : Nat) (hj : j < l.length) : l[j].cell = true := List.all_eq_true.1 h _ (List.getElem_mem hj)
theorem Inv.after_set {g : Gh} {σ : Store} {w : World} {id : Nat} {o : AObj} (h : Inv P g (σ.set id o) w) : Inv P g (σ.after [(id, some o)] []) w := by
  refine h.weak (fun i o' => ?_) (fun i hi => hi.1)
  simp only [Store.after, Store.set, lk]
  by_cases e : id = i <;> simp [e]
  intro h
  rw [if_neg (fun h' => e h'.symm)]; exact h
theorem Inv.after_new {g : Gh} {σ : Store} {w : World} {id : Nat} {o : AObj} (h : Inv P g (σ.new id o) w) : Inv P g (σ.after [] [(id, o)]) w := by
  refine h.weak (fun i o' => ?_) (fun i hi => ⟨hi.1, fun e => by have := hi.2; simp [lk, e] at this⟩)
  simp only [Store.after, Store.new, lk]
  by_cases e : id = i <;> simp [e]
  intro h
  rw [if_neg (fun h' => e h'.symm)]; exact h
theorem Inv.rename {g : Gh} {σ : Store} {w : World} (hi : Inv P g σ w) {j id : Nat} {o : AObj} {e : Nat × Nat × TypeId} (ho : σ.f j = some o) (he : g.io j = some e) (hfr : σ.fr id) :
    g.le (g.add id e) ∧ Inv P (g.add id e) (σ.after [(j, none)] [(id, o)]) w := by
  have hle : g.le (g.add id e) := Gh.le_add (hi.fr id hfr)
  have hjid : id ≠ j := by rintro rfl; rw [hi.fr _ hfr] at he; cases he
  have hold : ∀ i o', (σ.after [(j, none)] [(id, o)]).f i = some o' → (i = id ∧ o' = o) ∨ (i ≠ id ∧ i ≠ j ∧ σ.f i = some o') := by
    intro i o' h
    simp only [Store.after, lk] at h
    by_cases e1 : id = i
    · simp [e1] at h; exact .inl ⟨e1.symm, h.symm⟩
    · by_cases e2 : j = i
      · simp [e1, e2] at h
      · simp [e1, e2] at h; exact .inr ⟨fun h => e1 h.symm, fun h => e2 h.symm, h⟩
  refine ⟨hle, ?_, ?_, ?_, ?_, ?_, hi.gl.mono hle⟩
  · exact hi.hH
  · intro i o' h
    rcases hold i o' h with ⟨rfl, rfl⟩ | ⟨h1, h2, h3⟩
    · have := hi.obj j _ ho
      cases o' with
      | cells T cs =>
        obtain ⟨b, arr, k1, k2, k3, k4⟩ := this
        rw [he] at k1; injection k1 with k1; subst k1
        exact ⟨b, arr, Gh.add_same, k2, k3, fun q hq => ⟨(k4 q hq).1.mono hle, (k4 q hq).2⟩⟩
      | map es =>
        obtain ⟨b, ms, c, k1, k2, k3, k4⟩ := this
        rw [he] at k1; injection k1 with k1; subst k1
        exact ⟨b, ms, c, Gh.add_same, k2, k3, fun q hq => ⟨(k4 q hq).1.mono hle, (k4 q hq).2.1.mono hle, (k4 q hq).2.2⟩⟩
      | loop b d st pend fn N env ps as body =>
        obtain ⟨k1, tmps, k2, k3, k4⟩ := this
        rw [he] at k1; injection k1 with k1; subst k1
        exact ⟨Gh.add_same, tmps, k2, k3, fun t p e => (k4 t p e).mono hle⟩
      | dfr b =>
        obtain ⟨k1, k2⟩ := this
        rw [he] at k1; injection k1 with k1; subst k1
        exact ⟨Gh.add_same, k2⟩
    · exact (hi.obj i o' h3).mono hle (fun _ _ => rfl)
  · intro i k o1 o2 e1 e2 h1 h2 h3 h4 z1 z2 h5
    simp only [Gh.add] at h3 h4
    rcases hold i o1 h1 with ⟨rfl, _⟩ | ⟨a1, a2, a3⟩ <;> rcases hold k o2 h2 with ⟨rfl, _⟩ | ⟨b1, b2, b3⟩
    · rfl
    · rw [if_pos rfl] at h3; injection h3 with h3; subst h3
      rw [if_neg b1] at h4
      exact absurd (hi.inj j k _ _ _ _ ho b3 he h4 z1 z2 h5).symm b2
    · rw [if_pos rfl] at h4; injection h4 with h4; subst h4
      rw [if_neg a1] at h3
      exact absurd (hi.inj i j _ _ _ _ a3 ho h3 he z1 z2 h5) a2
    · rw [if_neg a1] at h3; rw [if_neg b1] at h4
      exact hi.inj i k _ _ _ _ a3 b3 h3 h4 z1 z2 h5
  · intro i o1 e1 h1 h3 z
    simp only [Gh.add] at h3
    rcases hold i o1 h1 with ⟨rfl, _⟩ | ⟨a1, a2, a3⟩
    · rw [if_pos rfl] at h3; injection h3 with h3; subst h3; exact hi.dis j _ _ ho he z
    · rw [if_neg a1] at h3; exact hi.dis i _ _ a3 h3 z
  · intro i hfi
    have hne : i ≠ id := by rintro rfl; have := hfi.2; simp [lk] at this
    simp only [Gh.add, if_neg hne]
    exact hi.fr i hfi.1
def srcA (P : Program) (σ : Store) (e : TypeId) : PV → Option (Nat × List PV)
  | .rows e' r => if e' = e then some (r.length, r.flatten) else none
  | .emp => some (0, [])
  | .sl e' id off n => if e' = e then match σ.f id with
      | some (.cells _ cs) => if off + n * P.cellsOf e ≤ cs.length then some (n, (cs.drop off).take (n * P.cellsOf e)) else none
      | _ => none
    else none
  | _ => none
omit [Glob] in
theorem flatten_len (k : Nat) : (r : List (List PV)) → (∀ c ∈ r, c.length = k) → r.flatten.length = r.length * k
  | [], _ => by simp
  | c :: r, h => by
    have := flatten_len k r (fun c hc => h c (by simp [hc]))
    simp [this, h c (by simp), Nat.add_mul]; omega
omit [Glob] in
theorem flatten_get (k : Nat) (hk : 0 < k) : (r : List (List PV)) → (h : ∀ c ∈ r, c.length = k) → ∀ j (hj : j < r.flatten.length), ∃ (h1 : j / k < r.length) (h2 : j % k < (r[j / k]).length), r.flatten[j] = r[j / k][j % k]
  | [], _, j, hj => by simp at hj
  | c :: r, h, j, hj => by
    have hc := h c (by simp)
    by_cases hlt : j < k
    · have e1 : j / k = 0 := Nat.div_eq_of_lt hlt
      have e2 : j % k = j := Nat.mod_eq_of_lt hlt
      refine ⟨by rw [e1]; simp, by simp [e1, e2, hc, hlt], ?_⟩
      simp only [List.flatten_cons]
      rw [List.getElem_append_left (by omega)]
      simp [e1, e2]
    · have hj' : j - k < r.flatten.length := by simp at hj; simp; omega
      obtain ⟨h1, h2, h3⟩ := flatten_get k hk r (fun c hc => h c (by simp [hc])) (j - k) hj'
      have e1 : j / k = (j - k) / k + 1 := by rw [Nat.div_eq_sub_div hk (by omega)]
      have e2 : j % k = (j - k) % k := Nat.mod_eq_sub_mod (by omega)
      refine ⟨by rw [e1]; simp; exact h1, by simp only [e1, e2]; simpa using h2, ?_⟩
      simp only [List.flatten_cons]
      rw [List.getElem_append_right (by omega)]
      simp only [e1, e2, hc, h3, List.getElem_cons_succ]
theorem src_ok {g : Gh} {σ : Store} {w : World} (hi : Inv P g σ w) {tx e : TypeId} (hk : P.underlying tx = some (.slice e)) {p : PV} {v : Value} (hr : R P g p v) {m : Nat} {news : List PV} (h : srcA P σ e p = some (m, news)) :
    ∃ vs : List Value, Src P (P.cellsOf e) tx v m vs w ∧ vs.length = news.length ∧ news.length = m * P.cellsOf e ∧ (∀ j (h1 : j < news.length), R P g news[j] (vs.getD j undef) ∧ news[j].cell = true) := by
  have nil : ∀ (a : Option Addr) (c : Nat), ∃ vs : List Value, Src P (P.cellsOf e) tx (.slice a 0 c) 0 vs w ∧ vs.length = ([] : List PV).length ∧ ([] : List PV).length = 0 * P.cellsOf e ∧ (∀ j (h1 : j < ([] : List PV).length), R P g ([] : List PV)[j] (vs.getD j undef) ∧ ([] : List PV)[j].cell = true) := by
    intro a c
    cases a with
    | none => exact ⟨[], Src.ofNil w hk c, rfl, by simp, fun j h1 => by simp at h1⟩
    | some a => exact ⟨[], Src.ofSlice w hk a 0 c [] (by simp) (fun j u h => by simp at h) (fun u h => by cases h), rfl, by simp, fun j h1 => by simp at h1⟩
  cases hr <;> simp only [srcA] at h <;> try cases h
  case rows0 e' a cap =>
    split at h
    · simp at h; obtain ⟨rfl, rfl⟩ := h; exact nil a cap
    · cases h
  case emp a => exact nil a 0
  case rows e' r b off cap arr T fr hH hes hcap hn hl hp hce hrr =>
    split at h
    · rename_i he; subst he
      simp only [Option.some.injEq, Prod.mk.injEq] at h
      obtain ⟨rfl, rfl⟩ := h
      have hh := hi.hH _ _ hH
      have hfl := flatten_len _ r hl
      have hcell : ∀ x ∈ r.flatten, x.cell = true := by
        intro x hx
        obtain ⟨c, hc, hxc⟩ := List.mem_flatten.1 hx
        exact hce c hc x hxc
      have hR : ∀ j (h1 : j < r.flatten.length), R P g r.flatten[j] (arr.getD (off + j) undef) := by
        intro j hj
        obtain ⟨k1, k2, k3⟩ := flatten_get _ hes r hl j hj
        rw [k3]
        have := hrr (j / P.cellsOf e') (j % P.cellsOf e') k1 k2
        have e2 : off + j / P.cellsOf e' * P.cellsOf e' + j % P.cellsOf e' = off + j := by
          have := Nat.div_add_mod j (P.cellsOf e')
          rw [Nat.mul_comm] at this; omega
        rwa [e2] at this
      refine ⟨(List.range r.flatten.length).map (fun j => arr.getD (off + j) undef), Src.ofSlice w hk _ _ _ _ (by simp [hfl]) ?_ ?_, by simp, hfl, fun j hj => ⟨?_, hcell _ (List.getElem_mem hj)⟩⟩
      · intro j u hu
        obtain ⟨hj, hu⟩ := List.getElem?_eq_some_iff.1 hu
        simp at hj hu
        subst hu
        rw [Addr.add_mid, cell_of_row w b (off + j) arr T fr hh]
        have hj' : j < r.flatten.length := by simpa using hj
        rw [Array.getElem?_eq_getElem (by omega)]; rfl
      · intro u hu
        obtain ⟨j, hj, rfl⟩ := List.mem_map.1 hu
        simp only [List.mem_range] at hj
        exact cell_one (hR j hj) (hcell _ (List.getElem_mem hj))
      · have := hR j hj
        have hj' : j < r.flatten.length := hj
        rw [List.getD_eq_getElem?_getD]
        simp only [List.getElem?_map, List.getElem?_range hj', Option.map_some, Option.getD_some]
        exact this
    · cases h
  case sl0 e' id off a b T hio =>
    split at h
    · rename_i he; subst he
      split at h
      · rename_i T' cs ho
        split at h
        · simp at h; obtain ⟨rfl, rfl⟩ := h; exact nil a 0
        · cases h
      · cases h
    · cases h
  case sl e' id off n cap b N T hio hlc hcc =>
    split at h
    · rename_i he; subst he
      split at h
      · rename_i T' cs ho
        split at h
        · rename_i hle
          simp only [Option.some.injEq, Prod.mk.injEq] at h
          obtain ⟨rfl, rfl⟩ := h
          obtain ⟨rfl, arr, hN, hh, hcs, hrr⟩ := cells_at hi ho hio
          have hlen : ((cs.drop off).take (n * P.cellsOf e')).length = n * P.cellsOf e' := by simp; omega
          have hget : ∀ j (h1 : j < ((cs.drop off).take (n * P.cellsOf e')).length), ((cs.drop off).take (n * P.cellsOf e'))[j] = cs[off + j]'(by omega) := by
            intro j h1; simp
          refine ⟨(List.range (n * P.cellsOf e')).map (fun j => arr.getD (off + j) undef), Src.ofSlice w hk _ _ _ _ (by simp) ?_ ?_, by simp; omega, hlen, fun j hj => ?_⟩
          · intro j u hu
            obtain ⟨hj, hu⟩ := List.getElem?_eq_some_iff.1 hu
            simp at hj hu
            subst hu
            have hh := hh.resolve_left (by omega)
            rw [Addr.add_mid, cell_of_row w b (off + j) arr T (0, 0) hh]
            rw [Array.getElem?_eq_getElem (by omega)]; rfl
          · intro u hu
            obtain ⟨j, hj, rfl⟩ := List.mem_map.1 hu
            simp only [List.mem_range] at hj
            have := hrr (off + j) (by omega)
            exact cell_one this.1 this.2
          · rw [hget j hj]
            have := hrr (off + j) (by omega)
            refine ⟨?_, this.2⟩
            rw [List.getD_eq_getElem?_getD]
            simp only [List.getElem?_map, List.getElem?_range (show j < n * P.cellsOf e' by omega), Option.map_some, Option.getD_some]
            exact this.1
        · cases h
      · cases h
    · cases h
def zeroOk (P : Program) (e : TypeId) : Bool :=
  match zeroA P e with
  | some z => z.whole && z.cellsOf.length == P.cellsOf e && z.cellsOf.all PV.cell
  | none => false
def appendA (P : Program) (σ : Store) (id : Nat) (t tx : TypeId) (b x : PV) : Option Out :=
  match P.underlying t, P.underlying tx, b with
  | some (.slice e), some (.slice e'), .sl e2 j 0 n => match σ.f j, srcA P σ e x with
    | some (.cells T cs), some (m, news) =>
      if e' = e ∧ e2 = e ∧ T = e ∧ cs.length = n * P.cellsOf e ∧ (n + m) * bytesOf P e ≤ 140737488355328 ∧ (n + m) ≤ 9223372036854775807 ∧ zeroOk P e = true then some ⟨.sl e id 0 (n + m), [(j, none)], [(id, .cells e (cs ++ news))]⟩
      else if e' = e ∧ e2 = e ∧ T = e ∧ n * P.cellsOf e ≤ cs.length ∧ (n + m) * bytesOf P e ≤ 140737488355328 ∧ (n + m) ≤ 9223372036854775807 ∧ zeroOk P e = true then some ⟨.sl e id 0 (n + m), [(j, none)], [(id, .cells e (cs.take (n * P.cellsOf e) ++ news))]⟩ else none
    | _, _ => none
  | some (.slice e), some (.slice e'), .emp => match srcA P σ e x with
    | some (m, news) => if e' = e ∧ 0 < m ∧ m * bytesOf P e ≤ 140737488355328 ∧ m ≤ 9223372036854775807 ∧ zeroOk P e = true then some ⟨.sl e id 0 m, [], [(id, .cells e news)]⟩ else none
    | none => none
  | _, _, _ => none
theorem firstCells_of {g : Gh} {σ : Store} {w : World} (hi : Inv P g σ w) {tx e : TypeId} (hk : P.underlying tx = some (.slice e)) {j n : Nat} {v : Value} {T : TypeId} {cs : List PV} (hr : R P g (.sl e j 0 n) v) (ho : σ.f j = some (.cells T cs)) (hl : n * P.cellsOf e ≤ cs.length) :
    ∃ olds : List Value, (Builtin.firstCells (P.cellsOf e) n v).run P w.drew = .ok olds.toArray w.drew ∧ olds.length = (cs.take (n * P.cellsOf e)).length ∧ ∀ q (hq : q < (cs.take (n * P.cellsOf e)).length), R P g (cs.take (n * P.cellsOf e))[q] (olds.getD q undef) ∧ (cs.take (n * P.cellsOf e))[q].cell = true := by
  have hs : srcA P σ e (.sl e j 0 n) = some (n, cs.take (n * P.cellsOf e)) := by
    simp only [srcA, if_true, ho]
    rw [if_pos (by omega)]
    simp only [List.drop_zero]
  obtain ⟨vs, h1, h2, h3, h4⟩ := src_ok hi hk hr hs
  exact ⟨vs, h1.cellsD, h2, h4⟩
omit [Glob] in
theorem info_cells {e : TypeId} {i : TypeInfo} (h : P.info? e = some i) : P.cellsOf e = i.size := by simp [Program.cellsOf, h]
theorem grow_ok {g : Gh} {σ : Store} {w : World} (hi : Inv P g σ w) {t tx ty e : TypeId} (hu : P.underlying t = some (.slice e)) (hz : zeroOk P e = true) {a : Option Addr} {n cap m : Nat} {vx : Value} {cs news : List PV} {olds vs : List Value}
    (hold : (Builtin.firstCells (P.cellsOf e) n (.slice a n cap)).run P w.drew = .ok olds.toArray w.drew) (hol : olds.length = cs.length) (hcl : cs.length = n * P.cellsOf e) (hor : ∀ q (hq : q < cs.length), R P g cs[q] (olds.getD q undef) ∧ cs[q].cell = true)
    (hsrc : Src P (P.cellsOf e) tx vx m vs w) (hvl : vs.length = news.length) (hnl : news.length = m * P.cellsOf e) (hnr : ∀ q (hq : q < news.length), R P g news[q] (vs.getD q undef) ∧ news[q].cell = true)
    (hg : cap < n + m) (hb : (n + m) * bytesOf P e ≤ 140737488355328) (h63 : n + m ≤ 9223372036854775807) {id : Nat} (hfr : σ.fr id) :
    ∃ g' v w', (Builtin.append_ #[t, tx] ty #[.slice a n cap, vx]).run P w = .ok v w' ∧ g.le g' ∧ R P g' (.sl e id 0 (n + m)) v ∧ Inv P g' (σ.after [] [(id, .cells e (cs ++ news))]) w' ∧ Frame w w' := by
  obtain ⟨z, hz, hzw, hzl⟩ : ∃ z, zeroA P e = some z ∧ z.whole = true ∧ z.cellsOf.length = P.cellsOf e := by
    unfold zeroOk at hz
    split at hz
    · rename_i z hz'
      simp only [Bool.and_eq_true, beq_iff_eq] at hz
      exact ⟨z, hz', hz.1.1, hz.1.2⟩
    · cases hz
  cases hq : P.info? e with
  | none => unfold zeroA at hz; rw [hq] at hz; cases hz
  | some i =>
    have hsz := info_cells hq
    have hzv : ∃ zv, i.zero = some zv := by
      unfold zeroA at hz
      rw [hq] at hz
      simp only at hz
      split at hz
      · exact ⟨_, by assumption⟩
      · cases hz
    obtain ⟨zv, hzv⟩ := hzv
    have hbi : bytesOf P e = i.bytes := by simp [bytesOf, hq]
    rw [hsz] at hold hsrc
    have hrun := run_append_grow_src (P := P) (w := w) t tx ty e i zv hu hq hzv a n cap olds hold vx m vs hsrc hg (by omega) (growslice_fits hg (by rw [← hbi]; exact hb))
    have hi2 : Inv P g σ w.drew := hi.heapEq rfl
    obtain ⟨arr, harr⟩ : ∃ arr, (olds ++ vs).toArray ++ Builtin.zeroCells zv.cells (grownCap w (n + m) cap e - (n + m)) = arr := ⟨_, rfl⟩
    rw [harr] at hrun
    have hsize : arr.size = (olds ++ vs).length + (grownCap w (n + m) cap e - (n + m)) * zv.cells.size := by rw [← harr]; simp [size_zeroCells]
    have hzs : zv.cells.size = P.cellsOf e := by
      unfold zeroA at hz
      rw [hq] at hz
      simp only [hzv] at hz
      rw [(cells_R (R_const (P := P) (g := g) zv z hz) hzw).1, hzl]
    have hlen : (cs ++ news).length = (n + m) * P.cellsOf e := by simp [hcl, hnl, Nat.add_mul]
    have hol2 : (olds ++ vs).length = (cs ++ news).length := by simp [hol, hvl]
    have hge := grownCap_ge w (n + m) cap e
    obtain ⟨hle, hi3⟩ := hi2.allocCells hfr e (cs ++ news) arr (by rw [hsize, ← hol2]; omega) (fun q hq => by
      have e1 : arr.getD q undef = (olds ++ vs).getD q undef := by
        have hq' : q < (olds ++ vs).length := by omega
        rw [← harr, Array.getD_eq_getD_getElem?, Array.getElem?_append_left (by simpa using hq')]
        simp [List.getD_eq_getElem?_getD]
      rw [e1]
      by_cases hlt : q < cs.length
      · rw [List.getElem_append_left hlt, List.getD_eq_getElem?_getD, List.getElem?_append_left (by omega), ← List.getD_eq_getElem?_getD]
        exact hor q hlt
      · rw [List.getElem_append_right (by omega), List.getD_eq_getElem?_getD, List.getElem?_append_right (by omega), ← List.getD_eq_getElem?_getD]
        simp only [hol]
        exact hnr (q - cs.length) (by simp at hq; omega))
    refine ⟨_, _, _, hrun, hle, ?_, hi3.after_new, (frame_drew w).trans (frame_alloc w.drew _)⟩
    refine .sl e id 0 (n + m) _ w.heap.size _ e Gh.add_same hge ?_
    rw [hsize, hol2, hlen, hzs, ← Nat.add_mul]
    have : n + m + (grownCap w (n + m) cap e - (n + m)) = grownCap w (n + m) cap e := by omega
    rw [this]; omega
theorem Inv.dropOld {g : Gh} {σ : Store} {w : World} {j : Nat} {nw : List (Nat × AObj)} (h : Inv P g (σ.after [] nw) w) : Inv P g (σ.after [(j, none)] nw) w := by
  refine h.weak (fun i o => ?_) (fun i hi => hi)
  simp only [Store.after, lk]
  cases lk i nw with
  | some o' => exact id
  | none =>
    by_cases e : j = i <;> simp [e]
theorem append_core {g : Gh} {σ : Store} {w : World} (hi : Inv P g σ w) {id : Nat} {t tx ty : TypeId} {e j n m : Nat} {x : PV} {vb vx : Value} {cs news : List PV} (hb : R P g (.sl e j 0 n) vb) (hx : R P g x vx) (hu : P.underlying t = some (.slice e)) (hux : P.underlying tx = some (.slice e))
    (ho : σ.f j = some (.cells e cs)) (hs : srcA P σ e x = some (m, news)) (hcl : n * P.cellsOf e ≤ cs.length) (hbytes : (n + m) * bytesOf P e ≤ 140737488355328) (h63 : n + m ≤ 9223372036854775807) (hz : zeroOk P e = true) (hfr : σ.fr id) :
    ∃ g' v w', (Builtin.append_ #[t, tx] ty #[vb, vx]).run P w = .ok v w' ∧ g.le g' ∧ R P g' (.sl e id 0 (n + m)) v ∧ Inv P g' (σ.after [(j, none)] [(id, .cells e (cs.take (n * P.cellsOf e) ++ news))]) w' ∧ Frame w w' := by
  obtain ⟨vs, hsrc, hvl, hnl, hnr⟩ := src_ok hi hux hx hs
  obtain ⟨olds, hold, hol, hor⟩ := firstCells_of hi hux hb ho hcl
  have htl : (cs.take (n * P.cellsOf e)).length = n * P.cellsOf e := by rw [List.length_take]; omega
  cases hb with
  | sl0 _ _ _ a b T hio =>
    cases m with
    | zero =>
      have hcs0 : cs = [] := by
        obtain ⟨-, arr, hN, hh, hcs, hrr⟩ := cells_at hi ho hio
        exact List.eq_nil_of_length_eq_zero (by omega)
      have hns0 : news = [] := List.eq_nil_of_length_eq_zero (by simpa using hnl)
      have hvs0 : vs = [] := List.eq_nil_of_length_eq_zero (by rw [hvl, hns0]; rfl)
      subst hcs0; subst hns0; subst hvs0
      obtain ⟨hle, hi'⟩ := hi.rename ho hio hfr
      refine ⟨_, .slice a 0 0, w, ?_, hle, .sl0 _ id 0 a b T Gh.add_same, by simpa using hi', .refl w⟩
      cases hq : P.info? e with
      | none => simp [zeroOk, zeroA, hq] at hz
      | some i =>
        have hc := hsrc.cells
        rw [info_cells hq] at hc
        have hl := hsrc.len
        cases a with
        | none => simp [Builtin.append_, run_underlying hu, run_underlying hux, Go.sizeOf, typeInfo, hq, hl, hc]
        | some a => simp [Builtin.append_, run_underlying hu, run_underlying hux, Go.sizeOf, typeInfo, hq, hl, hc, storeCells]
    | succ m =>
      obtain ⟨g', v, w', h1, h2, h3, h4, h5⟩ := grow_ok (ty := ty) hi hu hz hold hol htl hor hsrc hvl hnl hnr (by omega) hbytes h63 hfr
      exact ⟨g', v, w', h1, h2, h3, h4.dropOld, h5⟩
  | sl _ _ _ _ cap b Nn T hio hlc hcc =>
    by_cases hroom : n + m ≤ cap
    · cases hq : P.info? e with
      | none => simp [zeroOk, zeroA, hq] at hz
      | some i =>
        have hsz := info_cells hq
        obtain ⟨hTe, arr, hN, hh, hcs, hrr⟩ := cells_at hi ho hio
        have hTe' := hTe.symm
        subst hTe'
        have hfit : (n + m) * P.cellsOf e ≤ Nn := Nat.le_trans (Nat.mul_le_mul_right _ hroom) (by omega)
        rw [Nat.add_mul] at hfit
        have hmul : n * P.cellsOf e = n * i.size := by rw [hsz]
        have hR : ∀ {g' : Gh}, g'.io id = some (b, Nn, e) → R P g' (.sl e id 0 (n + m)) (.slice (some ⟨b, 0, none⟩) (n + m) cap) := fun hio' => .sl _ _ _ _ cap b Nn e hio' hroom hcc
        rw [hsz] at hsrc
        by_cases hN0 : Nn = 0
        · have hcs0 : cs = [] := List.eq_nil_of_length_eq_zero (by omega)
          have hn0 : news = [] := List.eq_nil_of_length_eq_zero (by omega)
          subst hn0
          subst hcs0
          have hvs0 : vs = [] := List.eq_nil_of_length_eq_zero (by simpa using hvl)
          subst hvs0
          obtain ⟨hle, hi'⟩ := hi.rename ho hio hfr
          have hrun := run_append_room_src (P := P) (w := w) t tx ty e i hu hq b 0 n cap vx m [] hsrc hroom (fun j hj => by simp at hj) (fun j hj => by simp at hj)
          refine ⟨_, _, w, hrun, hle, hR Gh.add_same, ?_, .refl w⟩
          simpa using hi'
        · have hpos : 0 < Nn := by omega
          have hh := hh.resolve_left (by omega)
          have hone : ∀ u ∈ vs, u.oneCell' = true := hsrc.one
          have hrun := run_append_room_src (P := P) (w := w) t tx ty e i hu hq b 0 n cap vx m vs hsrc hroom (fun q hq => by
              rw [cell_of_row w b _ arr e (0, 0) hh, Array.getElem?_eq_getElem (by omega)]; rfl)
            (fun q hq => frozen_of_row w b _ arr e hh)
          have hh2 := heap_setCells b vs (0 + n * i.size) 0 w arr e hh
          simp only [Nat.add_zero] at hh2
          have hsr := setRange vs (0 + n * i.size) 0 arr
          have hi1 : Inv P g (σ.set j (.cells e (cs.take (n * P.cellsOf e) ++ news))) (w.setCells b (0 + n * i.size) vs) := by
            refine hi.turned ho hio hh2 (fun k hk => heap_setCells_other b _ _ w k hk) (by rw [hsr.1]; exact hN) hpos (by rw [List.length_append, htl]; omega) ?_
            intro q hq
            have hq' : q < n * P.cellsOf e + news.length := by rw [List.length_append, htl] at hq; exact hq
            rw [hsr.2 q (by omega)]
            by_cases hlt : q < n * P.cellsOf e
            · rw [if_neg (by omega), List.getElem_append_left (by omega), List.getElem_take]
              exact hrr q (by omega)
            · rw [if_pos (by omega), List.getElem_append_right (by omega)]
              have e3 : q - (0 + n * i.size + 0) = q - (cs.take (n * P.cellsOf e)).length := by omega
              rw [e3]
              exact hnr (q - (cs.take (n * P.cellsOf e)).length) (by omega)
          have ho1 : (σ.set j (.cells e (cs.take (n * P.cellsOf e) ++ news))).f j = some (.cells e (cs.take (n * P.cellsOf e) ++ news)) := by simp [Store.set]
          obtain ⟨hle, hi'⟩ := hi1.rename ho1 hio (id := id) hfr
          refine ⟨_, _, _, hrun, hle, hR Gh.add_same, ?_, frame_setCells b _ _ w⟩
          refine hi'.weak (fun k o => ?_) (fun k hk => hk)
          simp only [Store.after, Store.set, lk]
          by_cases e1 : id = k
          · simp [e1]
          · by_cases e2 : j = k
            · simp [e1, e2]
            · simp only [e1, e2, if_false]
              intro hk
              rw [if_neg (fun h' => e2 h'.symm)]; exact hk
    · obtain ⟨g', v, w', h1, h2, h3, h4, h5⟩ := grow_ok (ty := ty) hi hu hz hold hol htl hor hsrc hvl hnl hnr (by omega) hbytes h63 hfr
      exact ⟨g', v, w', h1, h2, h3, h4.dropOld, h5⟩
theorem append_ok {g : Gh} {σ : Store} {w : World} (hi : Inv P g σ w) {id : Nat} {t tx ty : TypeId} {b x : PV} {vb vx : Value} (hb : R P g b vb) (hx : R P g x vx) {out : Out} (h : appendA P σ id t tx b x = some out) (hfr : σ.fr id) :
    ∃ g' v w', (Builtin.append_ #[t, tx] ty #[vb, vx]).run P w = .ok v w' ∧ g.le g' ∧ R P g' out.v v ∧ Inv P g' (σ.after out.u out.nw) w' ∧ Frame w w' := by
  unfold appendA at h
  split at h
  · rename_i e e' e2 j n hu hux
    split at h
    · rename_i T cs m news ho hs
      split at h
      · rename_i hc
        obtain ⟨h1, h2, h3, hcl, hbytes, h63, hz⟩ := hc
        subst h3; subst h1; subst h2
        injection h with h; subst h
        have h9 := append_core (ty := ty) hi hb hx hu hux ho hs (by omega) hbytes h63 hz hfr
        rw [← hcl, List.take_length] at h9
        exact h9
      · split at h
        · rename_i hc
          obtain ⟨h1, h2, h3, hcl, hbytes, h63, hz⟩ := hc
          subst h3; subst h1; subst h2
          injection h with h; subst h
          exact append_core (ty := ty) hi hb hx hu hux ho hs hcl hbytes h63 hz hfr
        · cases h
    · cases h
  · rename_i e e' hu hux
    split at h
    · rename_i m news hs
      split at h
      · rename_i hc
        obtain ⟨h1, hm, hbytes, h63, hz⟩ := hc
        subst h1
        injection h with h; subst h
        obtain ⟨vs, hsrc, hvl, hnl, hnr⟩ := src_ok hi hux hx hs
        cases hb with
        | emp a =>
          have hold : (Builtin.firstCells (P.cellsOf e') 0 (.slice a 0 0)).run P w.drew = .ok ([] : List Value).toArray w.drew := by
            cases a with
            | none => exact run_firstCells_none w.drew _ 0 0 0
            | some a => exact run_firstCells_some w.drew (P.cellsOf e') 0 a 0 0 [] (by simp) (fun j u h => by simp at h)
          obtain ⟨g', v, w', h1, h2, h3, h4, h5⟩ := grow_ok (ty := ty) (n := 0) (m := m) (cs := []) (news := news) hi hu hz hold rfl (by simp) (fun q hq => by simp at hq) hsrc hvl hnl hnr (by omega) (by simpa using hbytes) (by simpa using h63) hfr
          refine ⟨g', v, w', h1, h2, ?_, h4, h5⟩
          simpa using h3
      · cases h
    · cases h
  · cases h
omit [Glob] in
theorem fillA_length {place : Nat → Option (Nat × Nat)} : {parts : List (Nat × PV)} → {cells out : List PV} → fillA place cells parts = some out → cells.length = out.length
  | [], cells, out, h => by simp only [fillA, Option.some.injEq] at h; rw [h]
  | (i, v) :: parts, cells, out, h => by
    simp only [fillA] at h
    split at h
    · cases h
    · split at h
      · rename_i hc
        have := fillA_length h
        rw [← this, splice_length hc.2.1]
      · cases h
def buildSliceA (P : Program) (id : Nat) (t : TypeId) (len : Nat) (parts : List (Nat × PV)) : Option Out :=
  match P.underlying t with
  | some (.slice e) => if zeroOk P e = true ∧ 0 < P.cellsOf e ∧ len * P.cellsOf e ≤ 16777216 then match zeroA P e with
      | some z => match fillA (fun i => some (i * P.cellsOf e, P.cellsOf e)) (rep len z.cellsOf) parts with
        | some cs => if cs.all PV.cell = true then some ⟨.sl e id 0 len, [], [(id, .cells e cs)]⟩ else none
        | none => none
      | none => none
    else none
  | _ => none
omit [Glob] in
theorem zeroOk_at {e : TypeId} (h : zeroOk P e = true) : ∃ i zv z, P.info? e = some i ∧ i.zero = some zv ∧ zeroA P e = some z ∧ z.whole = true ∧ z.cellsOf.length = P.cellsOf e ∧ P.cellsOf e = i.size ∧ z.cellsOf.all PV.cell = true ∧ ∀ g, R P g z zv := by
  unfold zeroOk at h
  split at h
  · rename_i z hz
    simp only [Bool.and_eq_true, beq_iff_eq] at h
    have hz' := hz
    unfold zeroA at hz
    split at hz
    · rename_i i hi
      split at hz
      · rename_i zv hzv
        exact ⟨i, zv, z, hi, hzv, hz', h.1.1, h.1.2, info_cells hi, h.2, fun g => R_const zv z hz⟩
      · cases hz
    · cases hz
  · cases h
theorem buildSlice_ok {g : Gh} {σ : Store} {w : World} (hi : Inv P g σ w) {id : Nat} {t : TypeId} {len : Nat} {parts : List (Nat × PV)} {vparts : Array (Nat × Value)} (hl : vparts.toList.length = parts.length)
    (hr : ∀ j (h1 : j < parts.length) (h2 : j < vparts.toList.length), parts[j].1 = vparts.toList[j].1 ∧ R P g parts[j].2 vparts.toList[j].2) {out : Out} (h : buildSliceA P id t len parts = some out) (hfr : σ.fr id) :
    ∃ g' v w', (Instr.buildSlice t len vparts).run P w = .ok v w' ∧ g.le g' ∧ R P g' out.v v ∧ Inv P g' (σ.after out.u out.nw) w' ∧ Frame w w' := by
  unfold buildSliceA at h
  split at h
  · rename_i e hu
    split at h
    · rename_i hc
      obtain ⟨hz, hpos, hsmall⟩ := hc
      obtain ⟨i, zv, z, hq, hzv, hza, hzw, hzl, hsz, hzc, hzr⟩ := zeroOk_at hz
      rw [hza] at h
      simp only at h
      split at h
      · rename_i cs hf
        split at h
        · rename_i hcell
          injection h with h; subst h
          have hzR := hzr g
          obtain ⟨z1, z2⟩ := cells_R hzR hzw
          have hbase : RL P g (rep len z.cellsOf) (madeCells zv.cells (len * i.size)) := by
            refine ⟨by simp [madeCells, rep_length, hzl, hsz], fun j hj => madeCells_R hzR hzw len _ (by rw [hzl, hsz]; exact Nat.le_refl _) j hj⟩
          have hplace : (fun j => some (j * P.cellsOf e, P.cellsOf e)) = (fun j => some (j * i.size, i.size) : Nat → Option (Nat × Nat)) := by rw [hsz]
          rw [hplace] at hf
          obtain ⟨ov, e1, e2⟩ := fill_ok (P := P) (g := g) parts vparts.toList _ _ cs hl hr hbase hf
          obtain ⟨hle, hi'⟩ := hi.allocCells hfr e cs ov (by have := e2.1; omega) (fun j hj => ⟨e2.2 j hj, all_cell hcell j hj⟩)
          have hN : ov.size = len * i.size := by rw [e2.1, ← fillA_length hf]; simp [rep_length, hzl, hsz]
          have hR : R P (g.add id (w.heap.size, ov.size, e)) (.sl e id 0 len) (.slice (some ⟨w.heap.size, 0, none⟩) len len) := .sl _ _ _ _ _ _ _ _ Gh.add_same (Nat.le_refl _) (by rw [hN, hsz]; simp)
          by_cases h0 : len * i.size = 0
          · have hlen0 : len = 0 := by
              rcases Nat.mul_eq_zero.1 h0 with h | h
              · exact h
              · omega
            subst hlen0
            refine ⟨_, _, _, ?_, hle, hR, hi'.after_new, frame_alloc w _⟩
            have e3 : Instr.fill (fun j => some (j * i.size, i.size)) #[] vparts.toList = some ov := by
              have hm : madeCells zv.cells (0 * i.size) = #[] := Array.eq_empty_of_size_eq_zero (by simp [madeCells])
              rw [← hm]; exact e1
            have e4 : ((Array.range 0).map fun (_ : Nat) => (default : Value)) = #[] := Array.eq_empty_of_size_eq_zero (by simp)
            simp [Instr.buildSlice, run_underlying hu, Go.sizeOf, typeInfo, hq, newRow, e3, e4]
          · have hrun := run_buildSlice (P := P) w t e len vparts ov i zv hu hq hzv (by rw [← hsz]; omega) h0 e1
            exact ⟨_, _, _, hrun, hle, hR, hi'.after_new, frame_alloc w _⟩
        · cases h
      · cases h
    · cases h
  · cases h
end
section
variable {P : Program}
omit [Glob] in
theorem frame_putObj (w : World) (b : Nat) (o : Obj) : Frame w (w.putObj b o) := ⟨rfl, rfl, rfl, by simp⟩
omit [Glob] in
theorem ObjOk.other {g : Gh} {w w' : World} {id b : Nat} {o : AObj} (h : ObjOk P g w id o) (hb : ∀ e, g.io id = some e → 0 < e.2.1 → e.1 ≠ b) (hw : ∀ k, k ≠ b → w'.heap[k]? = w.heap[k]?) : ObjOk P g w' id o := by
  cases o with
  | cells T cs =>
    obtain ⟨c, arr, h1, h2, h3⟩ := h
    refine ⟨c, arr, h1, ?_, h3⟩
    rcases Nat.eq_zero_or_pos arr.size with hz | hz
    · exact .inl hz
    · exact .inr (by rw [hw c (hb _ h1 hz)]; exact h2.resolve_left (by omega))
  | map es =>
    obtain ⟨c, ms, k, h1, h2, h3⟩ := h
    exact ⟨c, ms, k, h1, by rw [hw c (hb _ h1 Nat.one_pos)]; exact h2, h3⟩
  | loop c d st pend fn N env ps as body =>
    obtain ⟨h1, tmps, h2, h3⟩ := h
    exact ⟨h1, tmps, by rw [hw c (hb _ h1 Nat.one_pos)]; exact h2, h3⟩
  | dfr c => exact ⟨h.1, by rw [hw c (hb _ h.1 Nat.one_pos)]; exact h.2⟩
theorem Inv.put1 {g : Gh} {σ : Store} {w : World} (hi : Inv P g σ w) {id b : Nat} {T : TypeId} {o0 : AObj} (ho : σ.f id = some o0) (hio : g.io id = some (b, 1, T)) (ob : Obj) : Inv P g (σ.drop id) (w.putObj b ob) := by
  have hd : g.H b = none := hi.dis id o0 _ ho hio Nat.one_pos
  have hf : ∀ i o, (σ.drop id).f i = some o → i ≠ id ∧ σ.f i = some o := by
    intro i o h
    simp only [Store.drop] at h
    split at h
    · cases h
    · exact ⟨‹_›, h⟩
  refine ⟨fun k o hk => ?_, fun i o h => ?_, fun i j o o' e e' h1 h2 => hi.inj i j o o' e e' (hf _ _ h1).2 (hf _ _ h2).2, fun i o e h => hi.dis i o e (hf _ _ h).2, hi.fr, hi.gl⟩
  · have : k ≠ b := by rintro rfl; rw [hd] at hk; cases hk
    rw [World.putObj_heap_other this]; exact hi.hH k o hk
  · obtain ⟨h1, h2⟩ := hf i o h
    refine (hi.obj i o h2).other (b := b) (fun e he hz hb => h1 ?_) (fun k hk => World.putObj_heap_other hk)
    exact hi.inj i id _ _ _ _ h2 ho he hio hz Nat.one_pos hb
theorem Inv.set1 {g : Gh} {σ : Store} {w : World} (hi : Inv P g σ w) {id b : Nat} {T : TypeId} {o0 o1 : AObj} (ho : σ.f id = some o0) (hio : g.io id = some (b, 1, T)) (ob : Obj) (h1 : ObjOk P g (w.putObj b ob) id o1) : Inv P g (σ.set id o1) (w.putObj b ob) := by
  have k := hi.put1 ho hio ob
  have hf : ∀ i o, (σ.set id o1).f i = some o → (i = id ∧ o = o1) ∨ (i ≠ id ∧ (σ.drop id).f i = some o) := by
    intro i o h
    simp only [Store.set] at h
    split at h
    · injection h with h; exact .inl ⟨‹_›, h.symm⟩
    · rename_i hne; exact .inr ⟨hne, by simp only [Store.drop, if_neg hne]; exact h⟩
  have hany : ∀ i o, (σ.set id o1).f i = some o → ∃ o', σ.f i = some o' := by
    intro i o h
    rcases hf i o h with ⟨rfl, rfl⟩ | ⟨a, b⟩
    · exact ⟨_, ho⟩
    · simp only [Store.drop, if_neg a] at b; exact ⟨_, b⟩
  refine ⟨k.hH, fun i o h => ?_, fun i j o o' e e' h1 h2 => ?_, fun i o e h => ?_, hi.fr, hi.gl⟩
  · rcases hf i o h with ⟨rfl, rfl⟩ | ⟨a, b⟩
    · exact h1
    · exact k.obj i o b
  · obtain ⟨o2, a⟩ := hany _ _ h1
    obtain ⟨o3, b⟩ := hany _ _ h2
    exact hi.inj i j _ _ e e' a b
  · obtain ⟨o2, a⟩ := hany _ _ h
    exact hi.dis i _ e a
end
end Sg
