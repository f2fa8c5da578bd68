/- A part of a proof: lemmas and contracts of functions; the last text of the claim says what is proved. -/
import Derived.Test.YtnmfmeehmieifaaGreatXabd5f9e5a4
import Derived.OrdersIn
set_option linter.unusedSectionVars false
set_option linter.unusedSimpArgs false
set_option linter.unusedVariables false
namespace Sg
open Go
set_option linter.unusedSectionVars false
variable [Glob]
def storeO (P : Program) (σ : Store) (t : TypeId) (addr p : PV) : Option (Nat × AObj) :=
  match addr with
  | .ptr id off => match σ.f id with
    | some (.cells T cs) =>
      if p.whole = true ∧ p.cellsOf.length = P.cellsOf t ∧ 0 < P.cellsOf t ∧ off + P.cellsOf t ≤ cs.length ∧ p.cellsOf.all PV.cell = true then some (id, .cells T (splice cs off p.cellsOf)) else none
    | _ => none
  | _ => none
def copyA (P : Program) (σ : Store) (t : TypeId) (b x : PV) : Option Out :=
  match P.underlying t, b, x with
  | some (.slice e), .sl e1 j off n, .sl e2 j2 off2 m => match σ.f j, σ.f j2 with
    | some (.cells T cs), some (.cells _ cs2) =>
      if e1 = e ∧ e2 = e ∧ P.cellsOf e = 1 ∧ 0 < min m n ∧ off + min m n ≤ cs.length ∧ off2 + min m n ≤ cs2.length then some ⟨.int .i64 (min m n : Nat), [(j, some (.cells T (splice cs off ((cs2.drop off2).take (min m n)))))], []⟩ else none
    | _, _ => none
  | _, _, _ => none
theorem setCells_ok {P : Program} {g : Gh} {σ : Store} {w : World} (hi : Inv P g σ w) {id : Nat} {T : TypeId} {cs : List PV} (ho : σ.f id = some (.cells T cs)) {b N : Nat} {T' : TypeId} (hio : g.io id = some (b, N, T')) {off : Nat} (vs : List Value) (ps : List PV) (hl : vs.length = ps.length)
    (hr : ∀ j (h : j < ps.length), R P g ps[j] (vs.getD j undef) ∧ ps[j].cell = true) (hpos : 0 < ps.length) (hle : off + ps.length ≤ cs.length) : Inv P g (σ.set id (.cells T (splice cs off ps))) (w.setCells b off vs) := by
  obtain ⟨rfl, arr, hN, hh, hcs, hrr⟩ := cells_at hi ho hio
  have hh := hh.resolve_left (by omega)
  have hall : ∀ x ∈ ps, x.cell = true := by
    intro x hx
    obtain ⟨j, hj, rfl⟩ := List.getElem_of_mem hx
    exact (hr j hj).2
  have hh2 := heap_setCells b vs off 0 w arr T' hh
  simp only [Nat.add_zero] at hh2
  have hsz : ((vs.zipIdx 0).foldl (fun cs (x : Value × Nat) => cs.setIfInBounds (off + x.2) x.1) arr).size = arr.size := (setRange vs off 0 arr).1
  refine hi.turned ho hio hh2 (fun k hk => heap_setCells_other b _ _ w k hk) (by rw [hsz]; exact hN) (by omega) (by rw [splice_length (by omega)]; omega) ?_
  intro j hj
  rw [splice_length (by omega)] at hj
  refine ⟨?_, splice_cell (fun x hx => ?_) hall _ (List.getElem_mem _)⟩
  · rw [(setRange vs off 0 arr).2 j (by omega)]
    simp only [Nat.add_zero, hl]
    by_cases hrg : off ≤ j ∧ j < off + ps.length
    · rw [if_pos hrg]
      have e2 : (splice cs off ps)[j]'(by rw [splice_length (by omega)]; exact hj) = ps[j - off]'(by omega) := by
        simp only [splice]
        rw [List.getElem_append_left (by simp; omega), List.getElem_append_right (by simp; omega)]
        congr 1; simp; omega
      rw [e2]
      exact (hr (j - off) (by omega)).1
    · rw [if_neg hrg]
      have e2 : (splice cs off ps)[j]'(by rw [splice_length (by omega)]; exact hj) = cs[j] := by
        simp only [splice]
        by_cases hlt : j < off
        · rw [List.getElem_append_left (by simp; omega), List.getElem_append_left (by simp; omega)]; simp
        · rw [List.getElem_append_right (by simp; omega)]
          simp only [List.getElem_drop]
          congr 1; simp; omega
      rw [e2]
      exact (hrr j hj).1
  · obtain ⟨j', hj', rfl⟩ := List.getElem_of_mem hx; exact (hrr j' hj').2
theorem copy_ok {P : Program} {g : Gh} {σ : Store} {w : World} (hi : Inv P g σ w) {t tx ty : TypeId} {b x : PV} {vb vx : Value} (hb : R P g b vb) (hx : R P g x vx) {out : Out} (h : copyA P σ t b x = some out) :
    ∃ g' v w', (Builtin.copy_ #[t, tx] ty #[vb, vx]).run P w = .ok v w' ∧ g.le g' ∧ R P g' out.v v ∧ Inv P g' (σ.after out.u out.nw) w' ∧ Frame w w' := by
  unfold copyA at h
  split at h
  · rename_i e e1 j off n e2 j2 off2 m hu
    split at h
    · rename_i T cs T2 cs2 ho ho2
      split at h
      · rename_i hc
        obtain ⟨rfl, rfl, hsz, hpos, h1, h2⟩ := hc
        injection h with h; subst h
        have hb' : ∃ bb cap N T', vb = .slice (some ⟨bb, off, none⟩) n cap ∧ g.io j = some (bb, N, T') := by
          cases hb with
          | sl _ _ _ _ cap bb N T' hio _ _ => exact ⟨bb, cap, N, T', rfl, hio⟩
          | sl0 _ _ _ a bb T' hio => omega
        have hx' : ∃ bb cap N T', vx = .slice (some ⟨bb, off2, none⟩) m cap ∧ g.io j2 = some (bb, N, T') := by
          cases hx with
          | sl _ _ _ _ cap bb N T' hio _ _ => exact ⟨bb, cap, N, T', rfl, hio⟩
          | sl0 _ _ _ a bb T' hio => omega
        obtain ⟨bb, cap, N, T', rfl, hio⟩ := hb'
        obtain ⟨b2, cap2, N2, T2', rfl, hio2⟩ := hx'
        obtain ⟨_, arr, hN, hh, hcs, hrr⟩ := cells_at hi ho hio
        obtain ⟨_, arr2, hN2, hh2, hcs2, hrr2⟩ := cells_at hi ho2 hio2
        have hh := hh.resolve_left (by omega)
        have hh2 := hh2.resolve_left (by omega)
        let k := min m n
        let vs : List Value := (arr2.toList.drop off2).take k
        have hvl : vs.length = k := by simp only [vs, List.length_take, List.length_drop, Array.length_toList]; omega
        have hvg : ∀ q, q < k → vs.getD q undef = arr2.getD (off2 + q) undef := by
          intro q hq
          have h3 : off2 + q < arr2.size := by omega
          have h4 : q < arr2.size - off2 := by omega
          simp [vs, List.getD, hq, h3]
        have hpl : ((cs2.drop off2).take k).length = k := by simp only [List.length_take, List.length_drop]; omega
        have hpr : ∀ q (hq : q < ((cs2.drop off2).take k).length), R P g ((cs2.drop off2).take k)[q] (vs.getD q undef) ∧ ((cs2.drop off2).take k)[q].cell = true := by
          intro q hq
          rw [hpl] at hq
          have e : ((cs2.drop off2).take k)[q]'(by rw [hpl]; exact hq) = cs2[off2 + q]'(by omega) := by simp
          rw [e, hvg q hq]
          exact hrr2 (off2 + q) (by omega)
        have hone : ∀ v ∈ vs, v.oneCell' = true := by
          intro v hv
          obtain ⟨q, hq, rfl⟩ := List.getElem_of_mem hv
          have := hpr q (by rw [hpl, ← hvl]; exact hq)
          have e : vs.getD q undef = vs[q] := by simp [List.getD, hq]
          rw [e] at this
          exact cell_one this.1 this.2
        have hrun := run_copy_cells (P := P) w t tx ty e2 bb off n cap ⟨b2, off2, none⟩ m cap2 vs hu (by
            have : P.cellsOf e2 = 1 := hsz
            unfold Program.cellsOf at this
            cases hq : P.info? e2 with
            | none => rw [hq] at this; simp at this
            | some i => rw [hq] at this; simp at this ⊢; exact this) (by rw [hvl])
          (by
            intro q v hv
            have hq : q < vs.length := by
              rcases Nat.lt_or_ge q vs.length with h' | h'
              · exact h'
              · rw [List.getElem?_eq_none h'] at hv; cases hv
            rw [List.getElem?_eq_getElem hq] at hv
            injection hv with hv
            have hq' : q < k := by rw [← hvl]; exact hq
            have e := hvg q hq'
            have e2 : vs.getD q undef = v := by simp [List.getD, hq, hv]
            have h3 : off2 + q < arr2.size := by omega
            have hadd : (⟨b2, off2, none⟩ : Addr).add q = ⟨b2, off2 + q, none⟩ := by simp [Addr.add]
            rw [hadd]
            rw [cell_of_row w b2 _ arr2 T2' (0, 0) hh2]
            rw [← e2, e]
            simp [Array.getD, h3])
          (by
            intro q hq
            have hq' : q < k := by rw [← hvl]; exact hq
            rw [cell_of_row w bb _ arr T' (0, 0) hh]
            rw [Array.getElem?_eq_getElem (by omega)]; rfl)
          (fun q _ => frozen_of_row w bb _ arr T' hh) hone
        refine ⟨g, _, _, hrun, .refl g, ?_, ?_, frame_setCells bb _ _ w⟩
        · rw [hvl]; exact .int .i64 _
        · have := setCells_ok hi ho hio vs ((cs2.drop off2).take k) (by rw [hvl, hpl]) hpr (by rw [hpl]; exact hpos) (by rw [hpl]; exact h1)
          exact this.after_set
      · cases h
    · cases h
  · cases h
omit [Glob] in
theorem storeO_A {P : Program} {σ : Store} {t : TypeId} {addr p : PV} {x : Nat × AObj} (h : storeO P σ t addr p = some x) : storeA P σ t addr p = some (σ.set x.1 x.2) := by
  unfold storeO at h
  unfold storeA
  split at h
  · split at h
    · rename_i h1
      split at h
      · rename_i hc
        cases h2 : P.info? t with
        | none => have := hc.2.2.1; simp [Program.cellsOf, h2] at this
        | some i =>
          simp only [h1]
          rw [info_cells h2] at hc
          rw [if_pos hc]
          injection h with h; subst h; rfl
      · cases h
    · cases h
  · cases h
def boxA (id : Nat) (t : TypeId) (p : PV) : Option Out :=
  if p.whole = true ∧ p.cellsOf.all PV.cell = true then some ⟨.ptr id 0, [], [(id, .cells t p.cellsOf)]⟩ else none
def makeSliceA (P : Program) (id : Nat) (t : TypeId) (n c : Int) : Option Out :=
  match P.underlying t with
  | some (.slice e) => if zeroOk P e = true ∧ 0 ≤ n ∧ n ≤ c ∧ c.toNat * bytesOf P e ≤ 140737488355328 ∧ c.toNat ≤ 9223372036854775807 then match zeroA P e with
      | some z => some ⟨.sl e id 0 n.toNat, [], [(id, .cells e (rep n.toNat z.cellsOf))]⟩
      | none => none
    else none
  | _ => none
def insA (P : Program) (σ : Store) (t : TypeId) (p pk pv : PV) : Option Out :=
  match P.underlying t, p with
  | some (.map kt _), .map j => match σ.f j with
    | some (.map es) => match findA pk es with
      | some none => if keyOk P kt pk = true ∧ pk.pure = true then some ⟨.tuple [], [(j, some (.map (es ++ [(pk, pv)])))], []⟩ else none
      | _ => none
    | _ => none
  | _, _ => none
def memA (P : Program) (σ : Store) (env : Env) (id : Nat) : Op → Option Out
  | .store t x y => match ev env x, ev env y with
    | some p, some q => match storeO P σ t p q with
      | some (j, o) => some ⟨.tuple [], [(j, some o)], []⟩
      | none => none
    | _, _ => none
  | .box t x => match ev env x with
    | some p => boxA id t p
    | none => none
  | .alloc t => match zeroA P t with
    | some p => boxA id t p
    | none => none
  | .makeMap _ none => some ⟨.map id, [], [(id, .map [])]⟩
  | .insert t m k v => match ev env m, ev env k, ev env v with
    | some p, some pk, some pv => insA P σ t p pk pv
    | _, _, _ => none
  | .makeSlice t x y => match ev env x, ev env y with
    | some (.int .i64 n), some (.int .i64 c) => makeSliceA P id t n c
    | _, _ => none
  | .buildSlice t len parts => match evParts env parts.toList with
    | some ps => buildSliceA P id t len ps
    | none => none
  | .call { callee := .builtin .append, args := ⟨[x, y]⟩, argTypes := ⟨[t, tx]⟩ } => match ev env x, ev env y with
    | some p, some q => appendA P σ id t tx p q
    | _, _ => none
  | .call { callee := .builtin .copy, args := ⟨[x, y]⟩, argTypes := ⟨[t, _]⟩ } => match ev env x, ev env y with
    | some p, some q => copyA P σ t p q
    | _, _ => none
  | _ => none
section
variable {P : Program} {r : Option Nat} {N : Nat}
theorem OpA_out {o : Oper} {st : St} {K : St → Prop} {X : PV → St → Prop} (hdef : ∀ c, o.op ≠ .defer c) (out : Out) (hd : dstOk N o.dst = true)
    (hrun : ∀ g w a, RA P g N st a → Inv P g st.σ w → ∃ g' w', ((∃ v, (execOp a.eval o).run P w = .ok (.value v) w' ∧ R P g' out.v v) ∨ ((execOp a.eval o).run P w = .ok .skip w' ∧ out.v = .tuple [])) ∧ g.le g' ∧ Inv P g' (st.σ.after out.u out.nw) w' ∧ Frame w w')
    (h : K { st with env := put st.env o.dst out.v, σ := st.σ.after out.u out.nw }) : OpA P r N o st K X := by
  intro g w a ha hi next Q' h1 h2
  obtain ⟨g', w', hc, hg, hi', hf⟩ := hrun g w a ha hi
  refine ⟨fun _ _ => trivial, ?_⟩
  rw [Oper.semAt_eq _ _ _ hdef]
  rcases hc with ⟨v, e, hp⟩ | ⟨e, hp⟩
  · rw [e, Oper.uponIn_value]
    have := (ha.mono hg).put hd hp
    exact h1 g' { st with env := put st.env o.dst out.v, σ := st.σ.after out.u out.nw } _ w' hg ⟨this.env, this.df⟩ hi' hf h
  · rw [e, Oper.uponIn_skip]
    have := (ha.mono hg).put hd (p := out.v) (v := undef) (by rw [hp]; exact R_undef g')
    exact h1 g' { st with env := put st.env o.dst out.v, σ := st.σ.after out.u out.nw } _ w' hg ⟨this.env, this.df⟩ hi' hf h
theorem OpA_mem {o : Oper} {st : St} {K : St → Prop} {X : PV → St → Prop} {out : Out} (id : Nat) (h : memA P st.σ st.env id o.op = some out) (hfr : st.σ.fr id) (hd : dstOk N o.dst = true)
    (hk : K { st with env := put st.env o.dst out.v, σ := st.σ.after out.u out.nw }) : OpA P r N o st K X := by
  have box : ∀ {g : Gh} {w : World} {t : TypeId} {p : PV} {v : Value}, Inv P g st.σ w → R P g p v → boxA id t p = some out →
      ∃ g', g.le g' ∧ R P g' out.v (.pointer (some ⟨w.heap.size, 0, none⟩)) ∧ Inv P g' (st.σ.after out.u out.nw) (w.alloc (.cells v.cells t)) := by
    intro g w t p v hi hr hb
    unfold boxA at hb
    split at hb
    · rename_i hc
      injection hb with hb; subst hb
      obtain ⟨h1, h2⟩ := cells_R hr hc.1
      obtain ⟨hle, hi'⟩ := hi.allocCells hfr t p.cellsOf v.cells (by omega) (fun j hj => ⟨h2 j hj, all_cell hc.2 j hj⟩)
      exact ⟨_, hle, .ptr _ _ _ _ _ Gh.add_same, hi'.after_new⟩
    · cases hb
  refine OpA_out ?_ out hd (fun g w a ha hi => ?_) hk
  · intro c hc; rw [hc] at h; simp [memA] at h
  · unfold memA at h
    split at h
    · rename_i t x y ho
      split at h
      · rename_i p q hx hy
        split at h
        · rename_i j ob hst
          injection h with h; subst h
          obtain ⟨w', e, hi', hf⟩ := storeA_ok hi (R_ev ha hx) (R_ev ha hy) (storeO_A hst)
          exact ⟨g, w', .inr ⟨by simp [execOp, ho, e], rfl⟩, .refl g, hi'.after_set, hf⟩
        · cases h
      · cases h
    · rename_i t x ho
      split at h
      · rename_i p hx
        obtain ⟨g', h1, h2, h3⟩ := box hi (R_ev ha hx) h
        exact ⟨g', _, .inl ⟨_, by simp [execOp, ho, Instr.box, newVar, newRow], h2⟩, h1, h3, frame_alloc w _⟩
      · cases h
    · rename_i t ho
      split at h
      · rename_i p hx
        obtain ⟨z, e, hr⟩ := zero_ok (P := P) (g := g) (w := w) hx
        obtain ⟨g', h1, h2, h3⟩ := box hi hr h
        exact ⟨g', _, .inl ⟨_, by simp [execOp, ho, Instr.alloc, newVar, newRow, e], h2⟩, h1, h3, frame_alloc w _⟩
      · cases h
    · rename_i t ho
      injection h with h; subst h
      have hiA := hi.alloc hfr (.map []) (.map #[] 0) 1 0 ⟨w.heap.size, #[], 0, Gh.add_same, heap_new w _, rfl, fun j hj => by simp at hj⟩
      exact ⟨_, _, .inl ⟨.map (some w.heap.size), by simp [execOp, ho, Instr.makeMap], .map _ _ _ _ Gh.add_same⟩, Gh.le_add (hi.fr id hfr), hiA.after_new, frame_alloc w _⟩
    · rename_i t m k v ho
      split at h
      · rename_i p pk pv hm hke hv
        unfold insA at h
        split at h
        · rename_i kt et j hu
          split at h
          · rename_i es hob
            split at h
            · rename_i hf
              split at h
              · rename_i hc
                injection h with h; subst h
                have hrm := R_ev ha hm
                have hrk := R_ev ha hke
                have hrv := R_ev ha hv
                generalize hvm : a.eval m = vm at hrm
                cases hrm with
                | map _ b N T hio =>
                  obtain ⟨b', ms, clock, h1, h2, h3, h4⟩ := hi.obj _ _ hob
                  rw [hio] at h1; injection h1 with h1; injection h1 with h1 h5; subst h1
                  injection h5 with h5 h6; subst h5 h6
                  have hg : (getObj b).run P w = .ok (.map ms clock) w := by simp [getObj, Sem.run, h2]
                  have hms : ms.toList.length = es.length := by simpa using h3
                  have hrel : ∀ j (h1 : j < es.length) (h2 : j < ms.toList.length), R P g es[j].1 ms.toList[j].key ∧ R P g es[j].2 ms.toList[j].val := by
                    intro j k1 k2
                    have := h4 j k1
                    have hj : j < ms.size := by simpa using k2
                    simp only [Array.getD, hj, dite_true] at this
                    exact ⟨this.1, this.2.1⟩
                  obtain ⟨kd, hx, hor⟩ := keyOk_ok hc.1
                  obtain ⟨ro, e1, e2⟩ := findA_ok hrk hor es ms.toList 0 hms hrel _ hf
                  cases ro with
                  | some ro => exact e2.elim
                  | none =>
                    have hset : ∀ o : Obj, (setObj b o).run P w = .ok () (w.putObj b o) := by
                      intro o
                      have hlt : b < w.heap.size := (Array.getElem?_eq_some_iff.1 h2).1
                      simp [setObj, Sem.run, h2, World.putObj]
                    have hlt : b < w.heap.size := (Array.getElem?_eq_some_iff.1 h2).1
                    refine ⟨g, _, .inr ⟨?_, rfl⟩, .refl g, (hi.set1 (o1 := .map (es ++ [(pk, pv)])) hob hio (.map (ms.push { key := a.eval k, val := a.eval v, born := clock }) (clock + 1)) ?_).after_set, frame_putObj w b _⟩
                    · simp [execOp, ho, hvm, Instr.mapUpdate, run_underlying hu, hg, checkKey_ok hrk hc.1, Instr.findKey, run_underlying hx, e1, hset]
                    · refine ⟨b, _, _, hio, World.putObj_heap_same hlt, by simp [h3], fun q hq => ?_⟩
                      by_cases hlast : q < es.length
                      · have := h4 q hlast
                        have hq2 : q < ms.size := by rw [h3]; exact hlast
                        have e5 : (es ++ [(pk, pv)])[q] = es[q] := List.getElem_append_left hlast
                        have e6 : (ms.push { key := a.eval k, val := a.eval v, born := clock }).getD q default = ms.getD q default := by
                          simp [Array.getD, hq2, Array.getElem_push, Nat.lt_succ_of_lt hq2]
                        rw [e5, e6]; exact this
                      · have hqe : q = es.length := by simp at hq; omega
                        subst hqe
                        have e5 : (es ++ [(pk, pv)])[es.length] = (pk, pv) := by simp
                        have e6 : (ms.push { key := a.eval k, val := a.eval v, born := clock }).getD es.length default = { key := a.eval k, val := a.eval v, born := clock } := by
                          simp [Array.getD, ← h3, Array.getElem_push]
                        rw [e5, e6]; exact ⟨hrk, hrv, hc.2⟩
              · cases h
            · cases h
          · cases h
        · cases h
      · cases h
    · rename_i t x y ho
      split at h
      · rename_i n c hx hy
        unfold makeSliceA at h
        split at h
        · rename_i e hu
          split at h
          · rename_i hc
            obtain ⟨hz, h0, hnc, hb, h63⟩ := hc
            obtain ⟨i, zv, z, hq, hzv, hza, hzw, hzl, hsz, hzc, hzr⟩ := zeroOk_at hz
            rw [hza] at h
            injection h with h; subst h
            have hbi : bytesOf P e = i.bytes := by simp [bytesOf, hq]
            obtain ⟨n, rfl⟩ := Int.eq_ofNat_of_zero_le h0
            obtain ⟨c, rfl⟩ := Int.eq_ofNat_of_zero_le (show 0 ≤ c by omega)
            simp only [Int.toNat_natCast] at hb h63 ⊢
            have hb2 : (i.bytes : Int) * (c : Int) ≤ 281474976710656 := by
              have e4 : (i.bytes : Int) * (c : Int) = ((c * i.bytes : Nat) : Int) := by rw [Int.natCast_mul, Int.mul_comm]
              rw [e4, ← hbi]
              exact Int.ofNat_le.2 (Nat.le_trans hb (by decide))
            have hrun := run_make (P := P) (w := w) t e i zv hu hq hzv .i64 .i64 n c (by omega) (by omega) hb2 (by omega)
            simp only [Int.toNat_natCast] at hrun
            have hle2 : n * z.cellsOf.length ≤ c * i.size := by rw [hzl, hsz]; exact Nat.mul_le_mul_right _ (by omega)
            have hmr := madeCells_R (hzr g) hzw n (c * i.size) hle2
            have hms : (madeCells zv.cells (c * i.size)).size = c * i.size := by simp [madeCells]
            have hcl : ∀ j (hj : j < (rep n z.cellsOf).length), (rep n z.cellsOf)[j].cell = true := by
              intro j hj
              obtain ⟨hz', e'⟩ := rep_get z.cellsOf n j hj
              rw [e']; exact all_cell hzc _ hz'
            obtain ⟨hle', hi'⟩ := hi.allocCells hfr e (rep n z.cellsOf) (madeCells zv.cells (c * i.size)) (by rw [rep_length, hms]; exact hle2) (fun j hj => ⟨hmr j hj, hcl j hj⟩)
            have e1' : a.eval x = .int .i64 n := R_int (R_ev ha hx)
            have e2' : a.eval y = .int .i64 c := R_int (R_ev ha hy)
            exact ⟨_, _, .inl ⟨_, by simp [execOp, ho, e1', e2', hrun], .sl e id 0 n c w.heap.size _ _ Gh.add_same (by omega) (by rw [hms, hsz]; omega)⟩, hle', hi'.after_new, frame_alloc w _⟩
          · cases h
        · cases h
      · cases h
    · rename_i t len parts ho
      split at h
      · rename_i ps hps
        obtain ⟨h1, h2⟩ := evParts_ok ha parts.toList ps hps
        obtain ⟨g', v, w', e, k1, k2, k3, k4⟩ := buildSlice_ok (P := P) (g := g) (w := w) hi (vparts := parts.map fun (i, x) => (i, a.eval x)) (by simpa using h1) (by simpa using h2) h hfr
        exact ⟨g', w', .inl ⟨v, by simp [execOp, ho, e], k2⟩, k1, k3, k4⟩
      · cases h
    · rename_i x y t tx ho
      split at h
      · rename_i p q hx hy
        obtain ⟨g', v, w', e, k1, k2, k3, k4⟩ := append_ok (ty := o.type) hi (R_ev ha hx) (R_ev ha hy) h hfr
        refine ⟨g', w', .inl ⟨v, ?_, k2⟩, k1, k3, k4⟩
        unfold execOp
        simp only [ho]
        rw [resolve_builtin]
        simp [builtin, e]
      · cases h
    · rename_i x y t tx ho
      split at h
      · rename_i p q hx hy
        obtain ⟨g', v, w', e, k1, k2, k3, k4⟩ := copy_ok (tx := tx) (ty := o.type) hi (R_ev ha hx) (R_ev ha hy) h
        refine ⟨g', w', .inl ⟨v, ?_, k2⟩, k1, k3, k4⟩
        unfold execOp
        simp only [ho]
        rw [resolve_builtin]
        simp [builtin, e]
      · cases h
    · cases h
end
end Sg
namespace Sg
open Go
set_option linter.unusedSectionVars false
variable [Glob]
structure MS where
  env : Env
  l : List (Nat × AObj)
  f0 : Nat → Option AObj
  B : Nat
  M : Nat
  df : List DA
def MS.f (s : MS) (i : Nat) : Option AObj :=
  match lk i s.l with
  | some o => some o
  | none => if i < s.B then s.f0 i else none
def MS.σ (s : MS) : Store := { f := s.f, fr := fun i => s.M ≤ i }
def MS.st (s : MS) : St := ⟨s.env, s.σ, s.df⟩
def Wk (st : St) (K : MS → Prop) : Prop := ∃ s : MS, Weak st s.st ∧ K s
omit [Glob] in
theorem Weak.refl (s : St) : Weak s s := ⟨fun _ _ h => .inr h, fun _ _ h => h, fun _ h => h, rfl⟩
omit [Glob] in
theorem Weak.trans {a b c : St} (h : Weak a b) (k : Weak b c) : Weak a c :=
  ⟨fun t p e => by
    rcases k.env t p e with rfl | e'
    · exact .inl rfl
    · exact h.env t p e', fun i o e => h.f i o (k.f i o e), fun i e => h.fr i (k.fr i e), k.df.trans h.df⟩
omit [Glob] in
theorem Wk.here {s : MS} {K : MS → Prop} (h : K s) : Wk s.st K := ⟨s, .refl _, h⟩
omit [Glob] in
theorem Wk.mono {st : St} {K K' : MS → Prop} (h : Wk st K) (hk : ∀ s, K s → K' s) : Wk st K' := let ⟨s, a, b⟩ := h; ⟨s, a, hk s b⟩
omit [Glob] in
theorem Wk.weak {st st' : St} {K : MS → Prop} (w : Weak st st') (h : Wk st' K) : Wk st K := let ⟨s, a, b⟩ := h; ⟨s, w.trans a, b⟩
section
variable (P : Program) (r : Option Nat) (N : Nat)
def wpM (c : Code) (s : MS) (Q : ExitA → MS → Prop) : Prop := wpA P r N c s.st fun e st => Wk st (Q e)
def OpM (o : Oper) (s : MS) (K : MS → Prop) (X : PV → MS → Prop) : Prop := OpA P r N o s.st (fun st => Wk st K) (fun v st => Wk st (X v))
def OpsM (ops : Array Oper) (l : List Nat) (s : MS) (Q : ExitA → MS → Prop) : Prop := OpsA P r N ops l s.st fun e st => Wk st (Q e)
end
def ExitA.thenM (K : MS → Prop) (Q : ExitA → MS → Prop) : ExitA → MS → Prop
  | .normal, s => K s
  | e, s => Q e s
section
variable {P : Program} {r : Option Nat} {N : Nat} {s : MS} {Q : ExitA → MS → Prop}
theorem wpM_mono {c : Code} {Q' : ExitA → MS → Prop} (h : wpM P r N c s Q) (hq : ∀ e s, Q e s → Q' e s) : wpM P r N c s Q' := wpA_mono h fun e _ h => h.mono (hq e)
theorem wpM_skip (h : Q .normal s) : wpM P r N .skip s Q := wpA_skip (.here h)
theorem wpM_exit {id : Nat} (h : Q (.exit id) s) : wpM P r N (.exit id) s Q := wpA_exit (.here h)
theorem wpM_ret (h : Q .ret s) : wpM P r N .ret s Q := wpA_ret (.here h)
theorem wpM_seq0 {x y : Code} (h : wpM P r N x s (ExitA.thenM (fun s => wpM P r N y s Q) Q)) : wpM P r N (.seq x y) s Q := by
  refine wpA_seq (wpA_mono h ?_)
  rintro e st ⟨s', w, k⟩
  cases e with
  | normal => exact wpA_weak w k
  | _ => exact ⟨s', w, k⟩
def inBlk (id : Nat) (Q : ExitA → MS → Prop) : ExitA → MS → Prop
  | .exit i, s => if i = id then Q .normal s else Q (.exit i) s
  | e, s => Q e s
theorem wpM_block {id : Nat} {c : Code} (h : wpM P r N c s (inBlk id Q)) : wpM P r N (.block id c) s Q := by
  refine wpA_block (wpA_mono h ?_)
  rintro e st ⟨s', w, k⟩
  cases e with
  | exit i =>
    simp only [inBlk] at k ⊢
    split at k
    · rename_i h; rw [if_pos h]; exact ⟨s', w, k⟩
    · rename_i h; rw [if_neg h]; exact ⟨s', w, k⟩
  | _ => exact ⟨s', w, k⟩
theorem wpM_if {c : Operand} {x y : Code} {b : Bool} (hc : ev s.env c = some (.bool b)) (h1 : b = true → wpM P r N x s Q) (h2 : b = false → wpM P r N y s Q) : wpM P r N (.cond c x y) s Q := by
  refine wpA_cond hc ?_
  cases b with
  | true => exact h1 rfl
  | false => exact h2 rfl
theorem wpM_loop {c : Code} (I : Nat → MS → Prop) (n₀ : Nat) (h₀ : Wk s.st (I n₀))
    (round : ∀ n s, I n s → wpM P r N c s (ExitA.thenM (fun s' => Wk s'.st (fun s'' => ∃ n', n' < n ∧ I n' s'')) Q)) : wpM P r N (.loop c) s Q := by
  refine wpA_loop (fun n st => Wk st (I n)) n₀ h₀ ?_
  rintro n st ⟨s', w, k⟩
  refine wpA_weak w (wpA_mono (round n s' k) ?_)
  rintro e st' ⟨s2, w2, k2⟩
  cases e with
  | normal =>
    obtain ⟨s3, w3, n', hn, hI⟩ := k2
    exact ⟨n', hn, s3, w2.trans w3, hI⟩
  | _ => exact ⟨s2, w2, k2⟩
end
def subEnv (e : Env) : Env → Prop
  | [] => True
  | (t, p) :: r => get e t = some p ∧ subEnv e r
def subL (l : List (Nat × AObj)) : List (Nat × AObj) → Prop
  | [] => True
  | (i, o) :: r => lk i l = some o ∧ subL l r
def keepB (B : Nat) (f0 : Nat → Option AObj) (l' : List (Nat × AObj)) : List (Nat × AObj) → Prop
  | [] => True
  | (k, _) :: r => (B ≤ k ∨ (lk k l').isSome = true ∨ f0 k = none) ∧ keepB B f0 l' r
omit [Glob] in
theorem subEnv_get {e : Env} : {e' : Env} → subEnv e e' → ∀ t p, get e' t = some p → get e t = some p
  | [], _, t, p, h => by simp [get] at h
  | (k, v) :: r, ⟨h1, h2⟩, t, p, h => by
    simp only [get] at h
    split at h
    · rename_i e; subst e; injection h with h; subst h; exact h1
    · exact subEnv_get h2 t p h
omit [Glob] in
theorem subL_lk {l : List (Nat × AObj)} : {l' : List (Nat × AObj)} → subL l l' → ∀ i o, lk i l' = some o → lk i l = some o
  | [], _, i, o, h => by simp [lk] at h
  | (k, v) :: r, ⟨h1, h2⟩, i, o, h => by
    simp only [lk] at h
    split at h
    · rename_i e; subst e; injection h with h; subst h; exact h1
    · exact subL_lk h2 i o h
omit [Glob] in
theorem keepB_lk {B : Nat} {f0 : Nat → Option AObj} {l' : List (Nat × AObj)} : {l : List (Nat × AObj)} → keepB B f0 l' l → ∀ i o, lk i l = some o → lk i l' = none → B ≤ i ∨ f0 i = none
  | [], _, i, o, h, _ => by simp [lk] at h
  | (k, v) :: r, ⟨h1, h2⟩, i, o, h, hn => by
    simp only [lk] at h
    split at h
    · rename_i e; subst e
      rcases h1 with h1 | h1 | h1
      · exact .inl h1
      · rw [hn] at h1; cases h1
      · exact .inr h1
    · exact keepB_lk h2 i o h hn
omit [Glob] in
theorem weakM {s s' : MS} (h1 : subEnv s.env s'.env) (h2 : subL s.l s'.l) (h3 : keepB s.B s.f0 s'.l s.l) (h4 : s'.f0 = s.f0) (h5 : s'.B = s.B) (h6 : s.M ≤ s'.M) (h7 : s'.df = s.df) : Weak s.st s'.st := by
  refine ⟨fun t p e => .inr (subEnv_get h1 t p e), fun i o h => ?_, fun i h => Nat.le_trans h6 h, h7⟩
  simp only [MS.st, MS.σ, MS.f] at h ⊢
  cases hl : lk i s'.l with
  | some o' =>
    rw [hl] at h
    rw [subL_lk h2 i o' hl]; exact h
  | none =>
    rw [hl] at h
    simp only [h4, h5] at h
    cases hl2 : lk i s.l with
    | some o2 =>
      rcases keepB_lk h3 i o2 hl2 hl with hB | hB
      · rw [if_neg (by omega)] at h; cases h
      · rw [hB] at h; split at h <;> cases h
    | none => exact h
omit [Glob] in
theorem Wk.of {s s' : MS} {K : MS → Prop} (hk : K s') (h1 : subEnv s.env s'.env) (h2 : subL s.l s'.l) (h3 : keepB s.B s.f0 s'.l s.l) (h4 : s'.f0 = s.f0) (h5 : s'.B = s.B) (h6 : s.M ≤ s'.M) (h7 : s'.df = s.df) : Wk s.st K := ⟨s', weakM h1 h2 h3 h4 h5 h6 h7, hk⟩
def bindP (o : Option PV) (K : PV → Prop) : Prop := ∃ p, o = some p ∧ K p
def bindO (o : Option Out) (K : Out → Prop) : Prop := ∃ p, o = some p ∧ K p
def bindG (g : Option Bool) (A B : Prop) : Prop := (g = some true ∧ A) ∨ (g = some false ∧ B)
omit [Glob] in
@[congr] theorem bindP_congr {o o' : Option PV} {K : PV → Prop} (h : True → o = o') : bindP o K = bindP o' K := by rw [h trivial]
omit [Glob] in
@[congr] theorem bindO_congr {o o' : Option Out} {K : Out → Prop} (h : True → o = o') : bindO o K = bindO o' K := by rw [h trivial]
omit [Glob] in
@[congr] theorem bindG_congr {g g' : Option Bool} {A B : Prop} (h : True → g = g') : bindG g A B = bindG g' A B := by rw [h trivial]
omit [Glob] in
theorem bindP_some (p : PV) (K : PV → Prop) : bindP (some p) K = K p := by simp [bindP]
omit [Glob] in
theorem bindP_none (K : PV → Prop) : bindP none K = False := by simp [bindP]
omit [Glob] in
theorem bindO_some (p : Out) (K : Out → Prop) : bindO (some p) K = K p := by simp [bindO]
omit [Glob] in
theorem bindO_none (K : Out → Prop) : bindO none K = False := by simp [bindO]
omit [Glob] in
theorem bindP_ite (c : Prop) [Decidable c] (o : Option PV) (K : PV → Prop) : bindP (if c then o else none) K = (c ∧ bindP o K) := by
  by_cases h : c <;> simp [h, bindP]
omit [Glob] in
theorem bindO_ite (c : Prop) [Decidable c] (o : Option Out) (K : Out → Prop) : bindO (if c then o else none) K = (c ∧ bindO o K) := by
  by_cases h : c <;> simp [h, bindO]
omit [Glob] in
theorem bindG_true (A B : Prop) : bindG (some true) A B = A := by simp [bindG]
omit [Glob] in
theorem bindG_false (A B : Prop) : bindG (some false) A B = B := by simp [bindG]
inductive OK where
  | val
  | mem
  | call
def kind : Op → OK
  | .store _ _ _ | .box _ _ | .alloc _ | .makeSlice _ _ _ | .buildSlice _ _ _ | .makeMap _ none | .insert _ _ _ _ => .mem
  | .call { callee := .builtin .append, .. } => .mem
  | .call { callee := .builtin .copy, .. } => .mem
  | .call { callee := .builtin .len, .. } => .val
  | .call { callee := .builtin .max, .. } => .val
  | .call { callee := .builtin .min, .. } => .val
  | .call _ => .call
  | .panic .. => .call
  | .defer _ => .call
  | _ => .val
def bindK (k : OK) (A B C : Prop) : Prop := match k with
  | .val => A
  | .mem => B
  | .call => C
omit [Glob] in
@[congr] theorem bindK_congr {k k' : OK} {A B C : Prop} (h : True → k = k') : bindK k A B C = bindK k' A B C := by rw [h trivial]
omit [Glob] in
theorem bindK_val (A B C : Prop) : bindK .val A B C = A := rfl
omit [Glob] in
theorem bindK_mem (A B C : Prop) : bindK .mem A B C = B := rfl
omit [Glob] in
theorem bindK_call (A B C : Prop) : bindK .call A B C = C := rfl
def setl (i : Nat) (o : AObj) : List (Nat × AObj) → List (Nat × AObj)
  | [] => [(i, o)]
  | (k, v) :: r => if k = i then (i, o) :: r else (k, v) :: setl i o r
def dell (i : Nat) : List (Nat × AObj) → List (Nat × AObj)
  | [] => []
  | (k, v) :: r => if k = i then dell i r else (k, v) :: dell i r
def updl (l : List (Nat × AObj)) : List (Nat × Option AObj) → List (Nat × AObj)
  | [] => l
  | (i, some o) :: u => setl i o (updl l u)
  | (i, none) :: u => dell i (updl l u)
def okDel (B : Nat) (f0 : Nat → Option AObj) : List (Nat × Option AObj) → Prop
  | [] => True
  | (_, some _) :: u => okDel B f0 u
  | (i, none) :: u => (B ≤ i ∨ f0 i = none) ∧ okDel B f0 u
omit [Glob] in
theorem lk_setl (i j : Nat) (o : AObj) : (l : List (Nat × AObj)) → lk j (setl i o l) = if i = j then some o else lk j l
  | [] => by simp [setl, lk]
  | (k, v) :: r => by
    simp only [setl]
    split
    · rename_i e; subst e
      simp only [lk]
      by_cases h : k = j <;> simp [h]
    · rename_i e
      simp only [lk, lk_setl i j o r]
      by_cases h : k = j
      · subst h; simp; intro h; exact absurd h.symm e
      · simp [h]
omit [Glob] in
theorem lk_dell (i j : Nat) : (l : List (Nat × AObj)) → lk j (dell i l) = if i = j then none else lk j l
  | [] => by simp [dell, lk]
  | (k, v) :: r => by
    simp only [dell]
    split
    · rename_i e; subst e
      rw [lk_dell]
      by_cases h : k = j <;> simp [lk, h]
    · rename_i e
      simp only [lk, lk_dell i j r]
      by_cases h : k = j
      · subst h; simp; intro h; exact absurd h.symm e
      · simp [h]
omit [Glob] in
theorem lk_append (j : Nat) (l' : List (Nat × AObj)) : (l : List (Nat × AObj)) → lk j (l ++ l') = (match lk j l with | some o => some o | none => lk j l')
  | [] => by simp [lk]
  | (k, v) :: r => by
    simp only [List.cons_append, lk]
    split
    · rfl
    · exact lk_append j l' r
def MS.out (s : MS) (d : Option Nat) (o : Out) (M : Nat) : MS := { s with env := put s.env d o.v, l := o.nw ++ updl s.l o.u, M := M }
def cutL (l : List (Nat × AObj)) (f : Nat → Option AObj) (i : Nat) : Option AObj := if (lk i l).isSome = true then none else f i
omit [Glob] in
theorem lk_updl {s : MS} {i : Nat} : {u : List (Nat × Option AObj)} → okDel s.B s.f0 u → (match lk i (updl s.l u) with | some o => some o | none => if i < s.B then s.f0 i else none) = (match lk i u with | some o => o | none => s.f i)
  | [], _ => by simp [updl, lk, MS.f]
  | (k, some o) :: u, h => by
    have ih := lk_updl (s := s) (i := i) (u := u) h
    simp only [updl, lk_setl, lk]
    by_cases e : k = i
    · simp [e]
    · simp only [e, if_false]; exact ih
  | (k, none) :: u, h => by
    have ih := lk_updl (s := s) (i := i) (u := u) h.2
    simp only [updl, lk_dell, lk]
    by_cases e : k = i
    · subst e
      simp only [if_true]
      rcases h.1 with hB | hB
      · rw [if_neg (by omega)]
      · rw [hB]; split <;> rfl
    · simp only [e, if_false]; exact ih
omit [Glob] in
theorem weak_out {s : MS} {d : Option Nat} {o : Out} {M : Nat} (hM : s.M ≤ M) (hn : ∀ i, M ≤ i → lk i o.nw = none) (hd : okDel s.B s.f0 o.u) : Weak { s.st with env := put s.st.env d o.v, σ := s.st.σ.after o.u o.nw } (s.out d o M).st := by
  refine ⟨fun t p e => .inr e, fun i ob h => ?_, fun i h => ⟨Nat.le_trans hM h, hn i h⟩, rfl⟩
  simp only [MS.st, MS.σ, MS.f, MS.out, lk_append] at h
  simp only [Store.after, MS.st, MS.σ]
  cases hl : lk i o.nw with
  | some x => rw [hl] at h; exact h
  | none =>
    rw [hl] at h
    have := lk_updl (s := s) (i := i) hd
    show (match lk i o.u with | some o => o | none => s.f i) = some ob
    rw [← this]; exact h
section
variable (P : Program) (r : Option Nat) (N : Nat) (ops : Array Oper)
def guardA (env : Env) : Option (Nat × Bool) → Option Bool
  | none => some true
  | some (j, want) => match (ops[j]?).bind (·.dst) with
    | none => none
    | some d => match get env d with
      | some (.bool b) => some (b == want)
      | some (.tuple []) => some false
      | _ => none
def runL : List Oper → MS → (ExitA → MS → Prop) → Prop
  | [], s, Q => Q .normal s
  | o :: l, s, Q => bindG (guardA ops s.env o.guard)
      (bindK (kind o.op)
        (bindP (stepV P s.σ s.env o.op) fun p => runL l { s with env := put s.env o.dst p } Q)
        (bindO (memA P s.σ s.env s.M o.op) fun x => okDel s.B s.f0 x.u ∧ runL l (s.out o.dst x (s.M + x.nw.length)) Q)
        (OpM P r N o s (fun s' => runL l s' Q) (fun v s' => Q (.panic v) s')))
      (runL l { s with env := put s.env o.dst (.tuple []) } Q)
def kRun (l : List Oper) (Q : ExitA → MS → Prop) (s : MS) : Prop := runL P r N ops l s Q
def kPan (Q : ExitA → MS → Prop) (v : PV) (s : MS) : Prop := Q (.panic v) s
def kWp (c : Code) (Q : ExitA → MS → Prop) (s : MS) : Prop := wpM P r N c s Q
def kVal (l : List Oper) (Q : ExitA → MS → Prop) (s : MS) (d : Option Nat) (p : PV) : Prop := runL P r N ops l { s with env := put s.env d p } Q
def kMem (l : List Oper) (Q : ExitA → MS → Prop) (s : MS) (d : Option Nat) (x : Out) : Prop := okDel s.B s.f0 x.u ∧ runL P r N ops l (s.out d x (s.M + x.nw.length)) Q
end
omit [Glob] in
theorem appendA_nw {P : Program} {σ : Store} {id : Nat} {t tx : TypeId} {b x : PV} {out : Out} (h : appendA P σ id t tx b x = some out) : ∃ o, out.nw = [(id, o)] := by
  unfold appendA at h
  split at h
  · split at h
    · split at h
      · injection h with h; subst h; exact ⟨_, rfl⟩
      · split at h
        · injection h with h; subst h; exact ⟨_, rfl⟩
        · cases h
    · cases h
  · split at h
    · split at h
      · injection h with h; subst h; exact ⟨_, rfl⟩
      · cases h
    · cases h
  · cases h
theorem copyA_nw {P : Program} {σ : Store} {t : TypeId} {b x : PV} {out : Out} (h : copyA P σ t b x = some out) : out.nw = [] := by
  unfold copyA at h
  split at h
  · split at h
    · split at h
      · injection h with h; subst h; rfl
      · cases h
    · cases h
  · cases h
theorem memA_nw {P : Program} {σ : Store} {env : Env} {id : Nat} {op : Op} {out : Out} (h : memA P σ env id op = some out) : out.nw = [] ∨ ∃ o, out.nw = [(id, o)] := by
  have box : ∀ {t : TypeId} {p : PV}, boxA id t p = some out → out.nw = [] ∨ ∃ o, out.nw = [(id, o)] := by
    intro t p h
    unfold boxA at h
    split at h
    · injection h with h; subst h; exact .inr ⟨_, rfl⟩
    · cases h
  unfold memA at h
  split at h
  · split at h
    · split at h
      · injection h with h; subst h; exact .inl rfl
      · cases h
    · cases h
  · split at h
    · exact box h
    · cases h
  · split at h
    · exact box h
    · cases h
  · injection h with h; subst h; exact .inr ⟨_, rfl⟩
  · split at h
    · unfold insA at h
      split at h
      · split at h
        · split at h
          · split at h
            · injection h with h; subst h; exact .inl rfl
            · cases h
          · cases h
        · cases h
      · cases h
    · cases h
  · split at h
    · unfold makeSliceA at h
      split at h
      · split at h
        · split at h
          · injection h with h; subst h; exact .inr ⟨_, rfl⟩
          · cases h
        · cases h
      · cases h
    · cases h
  · split at h
    · unfold buildSliceA at h
      split at h
      · split at h
        · split at h
          · split at h
            · split at h
              · injection h with h; subst h; exact .inr ⟨_, rfl⟩
              · cases h
            · cases h
          · cases h
        · cases h
      · cases h
    · cases h
  · split at h
    · exact .inr (appendA_nw h)
    · cases h
  · split at h
    · exact .inl (copyA_nw h)
    · cases h
  · cases h
section
variable {P : Program} {r : Option Nat} {N : Nat} {ops : Array Oper}
theorem OpsA_weak {l : List Nat} {st st' : St} {Q : ExitA → St → Prop} (k : Weak st st') (h : OpsA P r N ops l st' Q) : OpsA P r N ops l st Q :=
  fun g0 w0 g w a h1 h2 ha hi => h g0 w0 g w a h1 h2 (ha.weak k) (hi.weak k.f k.fr)
omit [Glob] in
theorem guard_wanted {env : Env} {o : Oper} : wantedA ops env o = guardA ops env o.guard := by
  unfold wantedA guardA
  cases o.guard with
  | none => rfl
  | some x => rfl
theorem runL_ok : ∀ (l : List Oper) (k : Nat) (s : MS) (Q : ExitA → MS → Prop), (∀ i (h : i < l.length), ops[k + i]? = some l[i]) → (∀ o ∈ l, dstOk N o.dst = true) → runL P r N ops l s Q → OpsM P r N ops (List.range' k l.length) s Q
  | [], k, s, Q, _, _, h => OpsA_nil (.here h)
  | o :: l, k, s, Q, ho, hd, h => by
    have h0 : ops[k]? = some o := by have := ho 0 (by simp); simpa using this
    have hdo := hd o (by simp)
    have rest : ∀ s', runL P r N ops l s' Q → OpsM P r N ops (List.range' (k + 1) l.length) s' Q := fun s' h' =>
      runL_ok l (k + 1) s' Q (fun i hi => by have := ho (i + 1) (Nat.succ_lt_succ hi); simpa [Nat.add_assoc, Nat.add_comm 1 i] using this) (fun o ho => hd o (by simp [ho])) h'
    have restW : ∀ st, Wk st (fun s' => runL P r N ops l s' Q) → OpsA P r N ops (List.range' (k + 1) l.length) st (fun e st => Wk st (Q e)) := fun st ⟨s', w, h'⟩ => OpsA_weak w (rest s' h')
    show OpsA P r N ops (List.range' k (l.length + 1)) s.st _
    rw [List.range'_succ]
    simp only [runL] at h
    rcases h with ⟨hg, h⟩ | ⟨hg, h⟩
    · have hw : wantedA ops s.st.env o = some true := by rw [guard_wanted]; exact hg
      refine OpsA_cons h0 hw ?_
      generalize hk : kind o.op = kd at h
      cases kd with
      | val =>
        obtain ⟨p, hp, h⟩ := h
        exact OpA_val hp hdo (rest _ h)
      | mem =>
        obtain ⟨x, hx, hdel, h⟩ := h
        have hnw := memA_nw hx
        have hn : ∀ i, s.M + x.nw.length ≤ i → lk i x.nw = none := by
          intro i hi
          rcases hnw with e | ⟨ob, e⟩
          · rw [e]; rfl
          · rw [e] at hi ⊢
            simp only [lk]
            rw [if_neg (by simp at hi; omega)]
        refine OpA_mem s.M hx (Nat.le_refl _) hdo ?_
        exact OpsA_weak (weak_out (Nat.le_add_right _ _) hn hdel) (rest _ h)
      | call =>
        exact OpA.mono h (fun st hst => restW st hst) (fun v st hst => hst)
    · have hw : wantedA ops s.st.env o = some false := by rw [guard_wanted]; exact hg
      exact OpsA_skip h0 hw hdo (rest _ h)
theorem wpM_seq {s : MS} {Q : ExitA → MS → Prop} {x y : Code} (h : wpM P r N x s (ExitA.thenM (kWp P r N y Q) Q)) : wpM P r N (.seq x y) s Q := wpM_seq0 h
theorem wpM_region {id : Nat} {ops : Array Oper} {s : MS} {Q : ExitA → MS → Prop} (hd : ops.toList.all (fun o => dstOk N o.dst) = true) (h : runL P r N ops ops.toList s Q) : wpM P r N (.region id ops false) s Q := by
  refine wpA_region ?_
  have := runL_ok (P := P) (r := r) (N := N) (ops := ops) ops.toList 0 s Q (fun i hi => by simp) (fun o ho => List.all_eq_true.1 hd o ho) h
  rw [List.range_eq_range']
  simpa [OpsM] using this
def keepE (e : Env) : List Nat → Env
  | [] => []
  | k :: r => match get e k with
    | some v => (k, v) :: keepE e r
    | none => keepE e r
def MS.keep (s : MS) (ks : List Nat) : MS := { s with env := keepE s.env ks }
omit [Glob] in
theorem get_keepE {e : Env} {t : Nat} {p : PV} : {ks : List Nat} → get (keepE e ks) t = some p → get e t = some p
  | [], h => by simp [keepE, get] at h
  | k :: r, h => by
    simp only [keepE] at h
    split at h
    · rename_i v hv
      simp only [get] at h
      split at h
      · rename_i e; subst e; rw [hv]; exact h
      · exact get_keepE h
    · exact get_keepE h
omit [Glob] in
theorem Weak.keep (s : MS) (ks : List Nat) : Weak s.st (s.keep ks).st :=
  ⟨fun t p e => .inr (get_keepE e), fun _ _ h => h, fun _ h => h, rfl⟩
def keepQ (ks : List Nat) (Q : ExitA → MS → Prop) : ExitA → MS → Prop
  | .normal, s => Q .normal (s.keep ks)
  | e, s => Q e s
theorem wpM_regionK (ks : List Nat) {id : Nat} {ops : Array Oper} {s : MS} {Q : ExitA → MS → Prop} (hd : ops.toList.all (fun o => dstOk N o.dst) = true)
    (h : ∀ Q' : ExitA → MS → Prop, (∀ e s, keepQ ks Q e s → Q' e s) → runL P r N ops ops.toList s Q') : wpM P r N (.region id ops false) s Q := by
  refine wpA_mono (wpM_region hd (h _ fun _ _ h => h)) ?_
  rintro e st ⟨s', w, k⟩
  cases e with
  | normal => exact ⟨_, w.trans (.keep s' ks), k⟩
  | _ => exact ⟨s', w, k⟩
theorem wpM_keep (ks : List Nat) {c : Code} {s : MS} {Q : ExitA → MS → Prop} (h : wpM P r N c s (keepQ ks Q)) : wpM P r N c s Q := by
  refine wpA_mono h ?_
  rintro e st ⟨s', w, k⟩
  cases e with
  | normal => exact ⟨_, w.trans (.keep s' ks), k⟩
  | _ => exact ⟨s', w, k⟩
def cutQ (I : MS → Prop) (Q : ExitA → MS → Prop) : ExitA → MS → Prop
  | .normal, s => Wk s.st I
  | e, s => Q e s
end
end Sg
namespace Sg
open Go
set_option linter.unusedSectionVars false
variable [Glob]
mutual
def PV.ren (ρ : Nat → Nat) : PV → PV
  | .ptr id off => .ptr (ρ id) off
  | .sl e id off n => .sl e (ρ id) off n
  | .map id => .map (ρ id)
  | .fn f a c => .fn f (PV.renL ρ a) (PV.renL ρ c)
  | .iface t v => .iface t (v.ren ρ)
  | .agg cs => .agg (PV.renL ρ cs)
  | .tuple cs => .tuple (PV.renL ρ cs)
  | .bool b => .bool b
  | .int k n => .int k n
  | .str s => .str s
  | .nilp => .nilp
  | .vptr cs => .vptr cs
  | .kptr b o => .kptr b o
  | .rows e r => .rows e r
  | .emp => .emp
  | .nilm => .nilm
  | .nilfn => .nilfn
  | .nilif => .nilif
  | .dead => .dead
def PV.renL (ρ : Nat → Nat) : List PV → List PV
  | [] => []
  | x :: r => x.ren ρ :: PV.renL ρ r
end
omit [Glob] in
theorem renL_map (ρ : Nat → Nat) (l : List PV) : PV.renL ρ l = l.map (PV.ren ρ) := by
  induction l with
  | nil => rfl
  | cons x r ih => simp [PV.renL, ih]
omit [Glob] in
theorem R.ren {P : Program} {g g' : Gh} {ρ : Nat → Nat} {p : PV} {v : Value} (h : R P g p v) (hH : ∀ b o, g.H b = some o → g'.H b = some o) :
    p.ids (fun id => g'.io (ρ id) = g.io id) → R P g' (p.ren ρ) v := by
  have pure_turn : ∀ {q : PV} {u : Value}, R P g q u → q.pure = true → R P g' q u := fun h hp => h.turn hH (pure_ids _ hp)
  induction h with
  | bool b => exact fun _ => .bool b
  | int k n => exact fun _ => .int k n
  | str s => exact fun _ => .str s
  | nilp => exact fun _ => .nilp
  | ptr id off b N T h => exact fun hi => .ptr _ off b N T ((show g'.io (ρ id) = g.io id from hi).trans h)
  | vptr cs b off arr T fr h hn hp hr ih =>
    intro _
    exact .vptr cs b off arr T fr (hH _ _ h) hn hp fun j hj => pure_turn (hr j hj) ((pureL_iff cs).1 hp _ (List.getElem_mem hj))
  | kptr b o => exact fun _ => .kptr b o
  | rows0 e a cap => exact fun _ => .rows0 e a cap
  | emp a => exact fun _ => .emp a
  | rows e r b off cap arr T fr h hes hc hn hl hp hce hr ih =>
    intro _
    exact .rows e r b off cap arr T fr (hH _ _ h) hes hc hn hl hp hce fun i j hi hj => pure_turn (hr i j hi hj) ((pureL_iff _).1 (hp _ (List.getElem_mem hi)) _ (List.getElem_mem hj))
  | sl e id off len cap b N T h hlc hc => exact fun hi => .sl e _ off len cap b N T ((show g'.io (ρ id) = g.io id from hi).trans h) hlc hc
  | sl0 e id off a b T h => exact fun hi => .sl0 e _ off a b T ((show g'.io (ρ id) = g.io id from hi).trans h)
  | map id b N T h => exact fun hi => .map _ b N T ((show g'.io (ρ id) = g.io id from hi).trans h)
  | nilm => exact fun _ => .nilm
  | nilfn => exact fun _ => .nilfn
  | fn f a c va vc ha hc _ _ ih1 ih2 =>
    intro hi
    refine .fn f _ _ va vc (by rw [renL_map]; simpa using ha) (by rw [renL_map]; simpa using hc) (fun j hj => ?_) (fun j hj => ?_)
    · rw [renL_map] at hj
      have hj' : j < a.length := by simpa using hj
      have e : (PV.renL ρ a)[j]'(by rw [renL_map]; exact hj) = (a[j]).ren ρ := by simp [renL_map]
      rw [e]; exact ih1 j hj' (idsL_get hi.1 j hj')
    · rw [renL_map] at hj
      have hj' : j < c.length := by simpa using hj
      have e : (PV.renL ρ c)[j]'(by rw [renL_map]; exact hj) = (c[j]).ren ρ := by simp [renL_map]
      rw [e]; exact ih2 j hj' (idsL_get hi.2 j hj')
  | nilif => exact fun _ => .nilif
  | iface t v u _ ih => exact fun hi => .iface t _ u (ih hi)
  | agg cs vs hl _ ih =>
    intro hi
    refine .agg _ vs (by rw [renL_map]; simpa using hl) (fun j hj => ?_)
    rw [renL_map] at hj
    have hj' : j < cs.length := by simpa using hj
    have e : (PV.renL ρ cs)[j]'(by rw [renL_map]; exact hj) = (cs[j]).ren ρ := by simp [renL_map]
    rw [e]; exact ih j hj' (idsL_get hi j hj')
  | tuple cs vs hl _ ih =>
    intro hi
    refine .tuple _ vs (by rw [renL_map]; simpa using hl) (fun j hj => ?_)
    rw [renL_map] at hj
    have hj' : j < cs.length := by simpa using hj
    have e : (PV.renL ρ cs)[j]'(by rw [renL_map]; exact hj) = (cs[j]).ren ρ := by simp [renL_map]
    rw [e]; exact ih j hj' (idsL_get hi j hj')
  | dead v => exact fun _ => .dead v
omit [Glob] in
theorem ren_cell (ρ : Nat → Nat) (p : PV) : (p.ren ρ).cell = p.cell := by cases p <;> rfl
omit [Glob] in
theorem ren_pure (ρ : Nat → Nat) : (p : PV) → p.pure = true → p.ren ρ = p := fun p h => go p h
where
  go : (p : PV) → p.pure = true → p.ren ρ = p
    | .bool _, _ | .int _ _, _ | .str _, _ | .nilp, _ | .vptr _, _ | .kptr _ _, _ | .rows _ _, _ | .emp, _ | .nilm, _ | .nilfn, _ | .nilif, _ => rfl
    | .ptr _ _, h | .sl _ _ _ _, h | .map _, h | .dead, h => by simp [PV.pure] at h
    | .fn _ a c, h => by simp only [PV.pure, Bool.and_eq_true] at h; simp only [PV.ren, goL a h.1, goL c h.2]
    | .iface _ v, h => by simp only [PV.ren, go v h]
    | .agg cs, h => by simp only [PV.ren, goL cs h]
    | .tuple cs, h => by simp only [PV.ren, goL cs h]
  goL : (l : List PV) → PV.pureL l = true → PV.renL ρ l = l
    | [], _ => rfl
    | x :: r, h => by simp only [PV.pureL, Bool.and_eq_true] at h; simp only [PV.renL, go x h.1, goL r h.2]
def AObj.ren (ρ : Nat → Nat) : AObj → AObj
  | .cells T cs => .cells T (PV.renL ρ cs)
  | .map es => .map (es.map fun x => (x.1.ren ρ, x.2.ren ρ))
  | .loop b d st pend fn N env ps as body => .loop b d st pend fn N (mapE (PV.ren ρ) env) ps as body
  | .dfr b => .dfr b
def renId : List Nat → List Nat → Nat → Nat
  | j :: js, n :: ns, i => if i = j then n else renId js ns i
  | _, _, i => i
structure COut where
  rs : List PV
  pan : Option PV := none
  u : List (Nat × Option AObj) := []
  nw : List (Nat × AObj) := []
def packA : List PV → PV
  | [v] => v
  | vs => .tuple vs
def Store.inf' (σ : Store) : Prop := ∃ n, ∀ i, n ≤ i → σ.fr i
def callPost (P : Program) (g : Gh) (w : World) (σ : Store) (ns : List Nat) (Ω : COut → Prop) (e : Ending) (w' : World) : Prop :=
  ∃ g' out, g.le g' ∧ Frame w w' ∧ Inv P g' (σ.after out.u out.nw) w' ∧ (∀ x ∈ out.nw, x.1 ∈ ns) ∧ Ω out ∧
    match e, out.pan with
    | .returned v, none => R P g' (packA out.rs) v
    | .panicked ch, some p => ∃ u, ch = [{ v := u, recovered := false }] ∧ R P g' p u
    | _, _ => False
def CallsA (P : Program) (f : FuncId) (args : List PV) (σ : Store) (ns : List Nat) (Ω : COut → Prop) : Prop :=
  ∀ g w vals, RL P g args vals → Inv P g σ w → CallsIn (Fe none) 0 P f vals w (callPost P g w σ ns Ω)
def CallF (P : Program) (f : FuncId) (args : List PV) (l : List (Nat × AObj)) (k : Nat) (Ω : List Nat → COut → Prop) : Prop :=
  ∀ (σ : Store) (ns : List Nat), σ.inf' → (∀ i o, lk i l = some o → σ.f i = some o) → ns.length = k → ns.Nodup → (∀ n ∈ ns, σ.fr n) → CallsA P f args σ ns (Ω ns)
theorem CallF.mono {P : Program} {f : FuncId} {args : List PV} {l : List (Nat × AObj)} {k : Nat} {Ω Ω' : List Nat → COut → Prop} (h : CallF P f args l k Ω) (hk : ∀ ns o, Ω ns o → Ω' ns o) : CallF P f args l k Ω' :=
  fun σ ns a b c d e g w vals x y => (h σ ns a b c d e g w vals x y).mono fun _ _ ⟨g', out, h1, h2, h3, h4, h5, h6⟩ => ⟨g', out, h1, h2, h3, h4, hk _ _ h5, h6⟩
def envOf : Nat → List PV → Env
  | _, [] => []
  | k, p :: r => (k, p) :: envOf (k + 1) r
omit [Glob] in
theorem get_envOf : (k : Nat) → (l : List PV) → (t : Nat) → (p : PV) → get (envOf k l) t = some p → ∃ (_ : k ≤ t) (h : t - k < l.length), l[t - k] = p
  | k, [], t, p, h => by simp [envOf, get] at h
  | k, q :: r, t, p, h => by
    simp only [envOf, get] at h
    split at h
    · rename_i e; subst e; injection h with h; exact ⟨Nat.le_refl _, by simp, by simp [h]⟩
    · rename_i e
      obtain ⟨h1, h2, h3⟩ := get_envOf (k + 1) r t p h
      refine ⟨by omega, by simp; omega, ?_⟩
      have : t - k = (t - (k + 1)) + 1 := by omega
      simp only [this, List.getElem_cons_succ]; exact h3
def resA (P : Program) (σ : Store) (env : Env) : List ResultVar → Option (List PV)
  | [] => some []
  | .tmp t :: r => match get env t, resA P σ env r with
    | some p, some q => some (p :: q)
    | _, _ => none
  | .cell a t :: r => match get env a, resA P σ env r with
    | some p, some q => match loadA P σ t p with
      | some v => some (v :: q)
      | none => none
    | _, _ => none
def hasKey (i : Nat) (l : List (Nat × AObj)) : Bool := (lk i l).isSome
def keysIn (B : Nat) (l : List (Nat × AObj)) : List (Nat × AObj) → Prop
  | [] => True
  | (k, _) :: r => (B ≤ k ∨ hasKey k l = true) ∧ keysIn B l r
def AObj.ids (p : Nat → Prop) : AObj → Prop
  | .cells _ cs => PV.idsL p cs
  | .map es => ∀ x ∈ es, x.1.ids p ∧ x.2.ids p
  | .loop _ _ _ _ _ _ env _ _ _ => ∀ t x, get env t = some x → x.ids p
  | .dfr _ => True
def goodObj (ρ : Nat → Nat) (p : Nat → Prop) (s : MS) (i : Nat) (o : AObj) : Prop :=
  match s.f i with
  | some o0 => o = o0.ren ρ ∧ o0.ids p
  | none => False
def oldOk (ρ : Nat → Nat) (p : Nat → Prop) (s : MS) (u : List (Nat × Option AObj)) : List (Nat × AObj) → Prop
  | [] => True
  | (i, o) :: r => (match lk i u with
      | some (some o') => goodObj ρ p s i o'
      | some none => True
      | none => s.f i = some o) ∧ oldOk ρ p s u r
def newOk (ρ : Nat → Nat) (p : Nat → Prop) (s : MS) : List Nat → List Nat → List (Nat × AObj) → Prop
  | [], [], [] => True
  | j :: js, n :: ns, (n', o) :: r => n' = n ∧ s.B ≤ j ∧ goodObj ρ p s j o ∧ newOk ρ p s js ns r
  | _, _, _ => False
def updOk (l : List (Nat × AObj)) : List (Nat × Option AObj) → Prop
  | [] => True
  | (i, _) :: r => hasKey i l = true ∧ updOk l r
structure OutOk (l : List (Nat × AObj)) (s : MS) (js ns : List Nat) (rs0 : List PV) (pan0 : Option PV) (out : COut) : Prop where
  keys : keysIn s.B l s.l
  nodup : js.Nodup
  rs : out.rs = PV.renL (renId js ns) rs0
  pan : out.pan = pan0.map (PV.ren (renId js ns))
  ids : PV.idsL (fun i => hasKey i l = true ∨ i ∈ js) (rs0 ++ pan0.toList)
  upd : updOk l out.u
  old : oldOk (renId js ns) (fun i => hasKey i l = true ∨ i ∈ js) s out.u l
  nw : newOk (renId js ns) (fun i => hasKey i l = true ∨ i ∈ js) s js ns out.nw
def retQ (P : Program) (rv : List ResultVar) (l : List (Nat × AObj)) (f0 : Nat → Option AObj) (B : Nat) (ns : List Nat) (Ω : List Nat → COut → Prop) : ExitA → MS → Prop
  | .normal, s | .ret, s => s.f0 = f0 ∧ s.B = B ∧ s.df = [] ∧ ∃ js rs out, Ω ns out ∧ out.pan = none ∧ resA P s.σ s.env rv = some rs ∧ OutOk l s js ns rs none out
  | .panic v, s => s.f0 = f0 ∧ s.B = B ∧ s.df = [] ∧ ∃ js out, Ω ns out ∧ OutOk l s js ns [] (some v) out
  | _, _ => False
omit [Glob] in
theorem renId_not : {js ns : List Nat} → {i : Nat} → i ∉ js → renId js ns i = i
  | [], _, i, _ => by simp [renId]
  | j :: js, [], i, _ => by simp [renId]
  | j :: js, n :: ns, i, h => by
    simp only [List.mem_cons, not_or] at h
    simp only [renId, if_neg h.1]
    exact renId_not h.2
omit [Glob] in
theorem renId_mem : {js ns : List Nat} → js.length = ns.length → {i : Nat} → i ∈ js → renId js ns i ∈ ns
  | [], _, _, i, h => by simp at h
  | j :: js, [], hl, i, _ => by simp at hl
  | j :: js, n :: ns, hl, i, h => by
    simp only [renId]
    split
    · simp
    · rename_i e
      simp only [List.mem_cons] at h
      exact List.mem_cons_of_mem _ (renId_mem (by simpa using hl) (h.resolve_left e))
omit [Glob] in
theorem renId_inv : {js ns : List Nat} → js.length = ns.length → js.Nodup → ns.Nodup → {i : Nat} → i ∈ js → renId ns js (renId js ns i) = i
  | [], _, _, _, _, i, h => by simp at h
  | j :: js, [], hl, _, _, i, _ => by simp at hl
  | j :: js, n :: ns, hl, h1, h2, i, h => by
    simp only [List.nodup_cons] at h1 h2
    by_cases e : i = j
    · subst e; simp [renId]
    · simp only [List.mem_cons] at h
      have hi := h.resolve_left e
      have hm : renId js ns i ∈ ns := renId_mem (by simpa using hl) hi
      have hne : renId js ns i ≠ n := fun e => h2.1 (e ▸ hm)
      simp only [renId, if_neg e, if_neg hne]
      exact renId_inv (by simpa using hl) h1.2 h2.2 hi
omit [Glob] in
theorem oldOk_lk {ρ : Nat → Nat} {p : Nat → Prop} {s : MS} {u : List (Nat × Option AObj)} : {l : List (Nat × AObj)} → oldOk ρ p s u l → ∀ i o, lk i l = some o → (match lk i u with
      | some (some o') => goodObj ρ p s i o'
      | some none => True
      | none => s.f i = some o)
  | [], _, i, o, h => by simp [lk] at h
  | (k, v) :: r, ⟨h1, h2⟩, i, o, h => by
    by_cases e : k = i
    · subst e
      simp only [lk, if_true] at h
      injection h with h; subst h
      exact h1
    · simp only [lk, if_neg e] at h
      exact oldOk_lk h2 i o h
omit [Glob] in
theorem newOk_len {ρ : Nat → Nat} {p : Nat → Prop} {s : MS} : {js ns : List Nat} → {l : List (Nat × AObj)} → newOk ρ p s js ns l → js.length = ns.length
  | [], [], [], _ => rfl
  | j :: js, n :: ns, (n', o) :: r, h => by simp [newOk_len h.2.2.2]
  | [], [], _ :: _, h => h.elim
  | [], _ :: _, _, h => h.elim
  | _ :: _, [], _, h => h.elim
  | _ :: _, _ :: _, [], h => h.elim
omit [Glob] in
theorem newOk_lk {ρ : Nat → Nat} {p : Nat → Prop} {s : MS} : {js ns : List Nat} → {l : List (Nat × AObj)} → newOk ρ p s js ns l → js.Nodup → ns.Nodup → ∀ i, (∀ o, lk i l = some o → ∃ j, j ∈ js ∧ s.B ≤ j ∧ renId js ns j = i ∧ i ∈ ns ∧ goodObj ρ p s j o) ∧ (i ∈ ns → ∃ o, lk i l = some o)
  | [], [], [], _, _, _, i => ⟨fun o h => by simp [lk] at h, fun h => by simp at h⟩
  | j :: js, n :: ns, (n', o') :: r, ⟨e0, h1, h2, h3⟩, hj, hn, i => by
    subst e0
    simp only [List.nodup_cons] at hn hj
    obtain ⟨k1, k2⟩ := newOk_lk h3 hj.2 hn.2 i
    refine ⟨fun o h => ?_, fun h => ?_⟩
    · simp only [lk] at h
      split at h
      · rename_i e; subst e; injection h with h; subst h
        exact ⟨j, by simp, h1, by simp [renId], by simp, h2⟩
      · rename_i e
        obtain ⟨j', m1, m2, m3, m4, m5⟩ := k1 o h
        have ej : j' ≠ j := fun e => hj.1 (e ▸ m1)
        exact ⟨j', by simp [m1], m2, by simp [renId, ej, m3], by simp [m4], m5⟩
    · simp only [lk]
      by_cases e : n' = i
      · simp [e]
      · simp only [if_neg e]
        exact k2 (by simp only [List.mem_cons] at h; exact h.resolve_left (fun h' => e h'.symm))
  | [], [], _ :: _, h, _, _, _ => h.elim
  | [], _ :: _, _, h, _, _, _ => h.elim
  | _ :: _, [], _, h, _, _, _ => h.elim
  | _ :: _, _ :: _, [], h, _, _, _ => h.elim
omit [Glob] in
theorem updOk_lk {l : List (Nat × AObj)} : {u : List (Nat × Option AObj)} → updOk l u → ∀ i o, lk i u = some o → ∃ o', lk i l = some o'
  | [], _, i, o, h => by simp [lk] at h
  | (k, v) :: r, ⟨h1, h2⟩, i, o, h => by
    simp only [lk] at h
    split at h
    · rename_i e; subst e; exact Option.isSome_iff_exists.1 h1
    · exact updOk_lk h2 i o h
omit [Glob] in
theorem newOk_keys {ρ : Nat → Nat} {p : Nat → Prop} {s : MS} : {js ns : List Nat} → {l : List (Nat × AObj)} → newOk ρ p s js ns l → ∀ x ∈ l, x.1 ∈ ns
  | [], [], [], _, x, h => by simp at h
  | j :: js, n :: ns, (n', o) :: r, ⟨e0, _, _, h3⟩, x, h => by
    subst e0
    simp only [List.mem_cons] at h
    rcases h with rfl | h
    · simp
    · exact List.mem_cons_of_mem _ (newOk_keys h3 x h)
  | [], [], _ :: _, h, _, _ => h.elim
  | [], _ :: _, _, h, _, _ => h.elim
  | _ :: _, [], _, h, _, _ => h.elim
  | _ :: _, _ :: _, [], h, _, _ => h.elim
omit [Glob] in
theorem keysIn_lk {B : Nat} {l : List (Nat × AObj)} : {l' : List (Nat × AObj)} → keysIn B l l' → ∀ i o, lk i l' = some o → B ≤ i ∨ hasKey i l = true
  | [], _, i, o, h => by simp [lk] at h
  | (k, v) :: r, ⟨h1, h2⟩, i, o, h => by
    simp only [lk] at h
    split at h
    · rename_i e; subst e; exact h1
    · exact keysIn_lk h2 i o h
section
variable {P : Program}
omit [Glob] in
theorem ObjOk.turn {g g' : Gh} {w : World} {id : Nat} {o : AObj} (h : ObjOk P g w id o) (hH : ∀ b o, g.H b = some o → g'.H b = some o) (hid : g'.io id = g.io id) (hids : o.ids (fun i => g'.io i = g.io i)) : ObjOk P g' w id o := by
  cases o with
  | cells T cs =>
    obtain ⟨b, arr, h1, h2, h3, h4⟩ := h
    exact ⟨b, arr, hid.trans h1, h2, h3, fun j hj => ⟨(h4 j hj).1.turn hH (idsL_get hids j hj), (h4 j hj).2⟩⟩
  | map es =>
    obtain ⟨b, ms, c, h1, h2, h3, h4⟩ := h
    exact ⟨b, ms, c, hid.trans h1, h2, h3, fun j hj => ⟨(h4 j hj).1.turn hH (hids _ (List.getElem_mem hj)).1, (h4 j hj).2.1.turn hH (hids _ (List.getElem_mem hj)).2, (h4 j hj).2.2⟩⟩
  | loop b d st pend fn N env ps as body =>
    obtain ⟨h1, tmps, h2, h3, h4⟩ := h
    exact ⟨hid.trans h1, tmps, h2, h3, fun t p e => (h4 t p e).turn hH (hids t p e)⟩
  | dfr b => exact ⟨hid.trans h.1, h.2⟩
omit [Glob] in
theorem ObjOk.named {g : Gh} {w : World} {id : Nat} {o : AObj} (h : ObjOk P g w id o) : o.ids (fun i => (g.io i).isSome = true) := by
  cases o with
  | cells T cs =>
    obtain ⟨b, arr, h1, h2, h3, h4⟩ := h
    refine (idsL_iff _ _).2 fun x hx => ?_
    obtain ⟨j, hj, rfl⟩ := List.getElem_of_mem hx
    exact (h4 j hj).1.named
  | map es =>
    obtain ⟨b, ms, c, h1, h2, h3, h4⟩ := h
    intro x hx
    obtain ⟨j, hj, rfl⟩ := List.getElem_of_mem hx
    exact ⟨(h4 j hj).1.named, (h4 j hj).2.1.named⟩
  | loop b d st pend fn N env ps as body =>
    obtain ⟨h1, tmps, h2, h3, h4⟩ := h
    exact fun t p e => (h4 t p e).named
  | dfr b => trivial
omit [Glob] in
theorem ObjOk.has {g : Gh} {w : World} {id : Nat} {o : AObj} (h : ObjOk P g w id o) : (g.io id).isSome = true := by
  cases o with
  | cells T cs => obtain ⟨b, arr, h1, _⟩ := h; rw [h1]; rfl
  | map es => obtain ⟨b, ms, c, h1, _⟩ := h; rw [h1]; rfl
  | loop b d st pend fn N env ps as body => obtain ⟨h1, _⟩ := h; rw [h1]; rfl
  | dfr b => obtain ⟨h1, _⟩ := h; rw [h1]; rfl
omit [Glob] in
theorem AObj.ids_mono {p q : Nat → Prop} (h : ∀ i, p i → q i) {o : AObj} (k : o.ids p) : o.ids q := by
  cases o with
  | cells T cs => exact Sg.ids_mono.goL h cs k
  | map es => exact fun x hx => ⟨Sg.ids_mono h _ (k x hx).1, Sg.ids_mono h _ (k x hx).2⟩
  | loop b d st pend fn N env ps as body => exact fun t x e => Sg.ids_mono h _ (k t x e)
  | dfr b => trivial
theorem resA_ok {g : Gh} {σ : Store} {env : Env} {N : Nat} {tmps : Array Value} {w : World} (F : ResultVar → Sem Value) (hF1 : ∀ t, F (.tmp t) = pure (tmps.getD t undef)) (hF2 : ∀ a t, F (.cell a t) = (do loadVar t (← asAddr (tmps.getD a undef))))
    (he : REnv P g N env tmps) (hi : Inv P g σ w) : (rv : List ResultVar) → (rs : List PV) → resA P σ env rv = some rs →
    ∃ vs : List Value, (rv.mapM F).run P w = .ok vs w ∧ vs.length = rs.length ∧ ∀ j (h1 : j < rs.length), R P g rs[j] (vs.getD j undef)
  | [], rs, h => by simp [resA] at h; subst h; exact ⟨[], rfl, rfl, fun j h => by simp at h⟩
  | .tmp t :: r, rs, h => by
    simp only [resA] at h
    split at h
    · rename_i p q h1 h2
      injection h with h; subst h
      obtain ⟨vs, e, hl, hr⟩ := resA_ok F hF1 hF2 he hi r q h2
      refine ⟨tmps.getD t undef :: vs, ?_, by simp [hl], fun j hj => ?_⟩
      · rw [List.mapM_cons, hF1]; simp [e]
      · cases j with
        | zero => simpa using he.2.1 t p h1
        | succ j => simpa using hr j (by simpa using hj)
    · cases h
  | .cell a t :: r, rs, h => by
    simp only [resA] at h
    split at h
    · rename_i p q h1 h2
      split at h
      · rename_i v hv
        injection h with h; subst h
        obtain ⟨vs, e, hl, hr⟩ := resA_ok F hF1 hF2 he hi r q h2
        have hp := he.2.1 a p h1
        obtain ⟨u, e2, hu⟩ := loadA_ok hi hp hv
        have hA : (do loadVar t (← asAddr (tmps.getD a undef)) : Sem Value).run P w = .ok u w := by
          revert hp e2
          generalize tmps.getD a undef = va
          intro hp e2
          cases hp <;> first | (simp [loadA] at hv; done) | (simpa [Instr.loadAt, Instr.sureAddr, asAddr] using e2)
        refine ⟨u :: vs, ?_, by simp [hl], fun j hj => ?_⟩
        · rw [List.mapM_cons, hF2, Sem.run_bind, hA]; simp [e]
        · cases j with
          | zero => simpa using hu
          | succ j => simpa using hr j (by simpa using hj)
      · cases h
    · cases h
theorem results_ok {g : Gh} {σ : Store} {env : Env} {N : Nat} {tmps : Array Value} {w : World} {fn : Func} (he : REnv P g N env tmps) (hi : Inv P g σ w) {rs : List PV} (h : resA P σ env fn.results.toList = some rs) :
    ∃ v, (results fn tmps).run P w = .ok v w ∧ R P g (packA rs) v := by
  obtain ⟨vs, e, hl, hr⟩ := resA_ok (fun x => ResultVar.casesOn (motive := fun _ => Sem Value) x (fun t => pure (tmps.getD t undef)) (fun a t => do loadVar t (← asAddr (tmps.getD a undef)))) (fun t => rfl) (fun a t => rfl) he hi fn.results.toList rs h
  refine ⟨if h : vs.toArray.size = 1 then vs.toArray[0] else .tuple vs.toArray, ?_, ?_⟩
  · unfold results
    rw [Array.mapM_eq_mapM_toList, Sem.run_bind, Sem.run_map]
    have e' := congrArg (fun (x : Result (List Value)) => (x.andThen fun a w' => Result.ok a.toArray w').andThen fun (vs : Array Value) w' => Sem.run P (pure (if h : vs.size = 1 then vs[0] else .tuple vs) : Sem Value) w') e
    refine Eq.trans (congrArg (fun (F : ResultVar → Sem Value) => (((Sem.run P (List.mapM F fn.results.toList) w).andThen fun a w' => Result.ok a.toArray w').andThen fun (vs : Array Value) w' => Sem.run P (pure (if h : vs.size = 1 then vs[0] else .tuple vs) : Sem Value) w')) (?_ : _ = (fun x => ResultVar.casesOn (motive := fun _ => Sem Value) x (fun t => pure (tmps.getD t undef)) (fun a t => do loadVar t (← asAddr (tmps.getD a undef)))))) e'
    funext x
    cases x <;> rfl
  by_cases h1 : vs.length = 1
  · match vs, rs, h1, hl, hr with
    | [v], [p], _, _, hr => simpa [packA] using hr 0 (by simp)
  · rw [dif_neg (by simpa using h1)]
    have : packA rs = .tuple rs := by
      match rs, hl with
      | [], _ => rfl
      | [_], hl => exact absurd hl h1
      | _ :: _ :: _, _ => rfl
    rw [this]
    exact .tuple rs _ (by simp [hl]) (fun j hj => by simpa [List.getD_eq_getElem?_getD, Array.getD_eq_getD_getElem?] using hr j hj)
omit [Glob] in
theorem ObjOk.ren {g g' : Gh} {ρ : Nat → Nat} {w : World} {id : Nat} {o : AObj} (h : ObjOk P g w id o) (hH : ∀ b o, g.H b = some o → g'.H b = some o) {n : Nat} (hid : g'.io n = g.io id) (hids : o.ids (fun i => g'.io (ρ i) = g.io i)) : ObjOk P g' w n (o.ren ρ) := by
  cases o with
  | cells T cs =>
    obtain ⟨b, arr, h1, h2, h3, h4⟩ := h
    refine ⟨b, arr, hid.trans h1, h2, by rw [renL_map]; simpa using h3, fun j hj => ?_⟩
    rw [renL_map] at hj
    have hj' : j < cs.length := by simpa using hj
    have e : (PV.renL ρ cs)[j]'(by rw [renL_map]; exact hj) = (cs[j]).ren ρ := by simp [renL_map]
    rw [e]
    exact ⟨(h4 j hj').1.ren hH (idsL_get hids j hj'), by rw [ren_cell]; exact (h4 j hj').2⟩
  | map es =>
    obtain ⟨b, ms, c, h1, h2, h3, h4⟩ := h
    refine ⟨b, ms, c, hid.trans h1, h2, by simpa using h3, fun j hj => ?_⟩
    have hj' : j < es.length := by simpa [AObj.ren] using hj
    have e : (es.map fun x => (x.1.ren ρ, x.2.ren ρ))[j]'(by simpa using hj') = ((es[j]).1.ren ρ, (es[j]).2.ren ρ) := by simp
    rw [e]
    obtain ⟨a1, a2, a3⟩ := h4 j hj'
    have hm := hids _ (List.getElem_mem hj')
    exact ⟨a1.ren hH hm.1, a2.ren hH hm.2, by show (es[j].1.ren ρ).pure = true; rw [ren_pure ρ _ a3]; exact a3⟩
  | loop b d st pend fn N env ps as body =>
    obtain ⟨h1, tmps, h2, h3, h4⟩ := h
    refine ⟨hid.trans h1, tmps, h2, h3, fun t p e => ?_⟩
    rw [get_mapE, Option.map_eq_some_iff] at e
    obtain ⟨p0, e, rfl⟩ := e
    exact (h4 t p0 e).ren hH (hids t p0 e)
  | dfr b => exact ⟨hid.trans h.1, h.2⟩
theorem leave_ok {g g' : Gh} {σ : Store} {w w' : World} {l : List (Nat × AObj)} {B : Nat} {s : MS} {js ns : List Nat} {rs : List PV} {pan : Option PV} {out : COut} (hi : Inv P g σ w) (hB : ∀ i, B ≤ i → σ.fr i) (hl : ∀ i o, lk i l = some o → σ.f i = some o)
    (hns : ns.Nodup) (hnf : ∀ n ∈ ns, σ.fr n)
    (hf0 : s.f0 = fun i => if hasKey i l = true then none else σ.f i) (hsB : s.B = B) (hi' : Inv P g' s.σ w') (hle : g.le g') (ho : OutOk l s js ns rs pan out) :
    ∃ g'', g.le g'' ∧ Inv P g'' (σ.after out.u out.nw) w' ∧ (∀ x ∈ out.nw, x.1 ∈ ns) ∧ ∀ p v, p ∈ rs ++ pan.toList → R P g' p v → R P g'' (p.ren (renId js ns)) v := by
  classical
  let g'' : Gh := { io := fun n => if n ∈ ns then g'.io (renId ns js n) else if σ.fr n then none else g'.io n, H := g'.H }
  have hlen := newOk_len ho.nw
  have hkey : ∀ i, hasKey i l = true → ¬ σ.fr i := by
    intro i h hfr
    obtain ⟨o, ho⟩ := Option.isSome_iff_exists.1 h
    have := (hi.obj i o (hl i o ho)).has
    rw [hi.fr i hfr] at this; cases this
  have hfB : ∀ i o, σ.f i = some o → i < B := by
    intro i o h
    rcases Nat.lt_or_ge i B with h' | h'
    · exact h'
    · have := (hi.obj i o h).has
      rw [hi.fr i (hB i h')] at this; cases this
  have hnew := fun i => newOk_lk ho.nw ho.nodup hns i
  have hjsB : ∀ j ∈ js, B ≤ j := by
    intro j hj
    have hm := renId_mem hlen hj
    obtain ⟨o, hlo⟩ := (hnew (renId js ns j)).2 hm
    obtain ⟨j', a1, a2, a3, _, _⟩ := (hnew _).1 o hlo
    have e1 := renId_inv hlen ho.nodup hns hj
    have e2 := renId_inv hlen ho.nodup hns a1
    rw [a3, e1] at e2
    rw [e2, ← hsB]; exact a2
  have hkeyB : ∀ i, hasKey i l = true → i < B := by
    intro i h
    obtain ⟨o, ho⟩ := Option.isSome_iff_exists.1 h
    exact hfB i o (hl i o ho)
  have old : ∀ i, ¬ σ.fr i → g''.io i = g'.io i := by
    intro i h
    show (if i ∈ ns then _ else if σ.fr i then none else g'.io i) = _
    rw [if_neg (fun hm => h (hnf i hm)), if_neg h]
  have hio : ∀ i, (hasKey i l = true ∨ i ∈ js) → g''.io (renId js ns i) = g'.io i := by
    intro i h
    by_cases hj : i ∈ js
    · show (if renId js ns i ∈ ns then _ else _) = _
      rw [if_pos (renId_mem hlen hj), renId_inv hlen ho.nodup hns hj]
    · rw [renId_not hj]
      exact old i (hkey i (h.resolve_right hj))
  have hio2 : ∀ i, (g.io i).isSome = true → g''.io i = g'.io i := by
    intro i h
    refine old i fun h1 => ?_
    rw [hi.fr i h1] at h; cases h
  let src : Nat → Nat := fun n => if n ∈ ns then renId ns js n else n
  have hobj : ∀ i o, (σ.after out.u out.nw).f i = some o → ObjOk P g'' w' i o ∧ g''.io i = g'.io (src i) ∧ (∃ o0, s.f (src i) = some o0) ∧ (i ∈ ns ∨ i < B) := by
    intro i o h
    simp only [Store.after] at h
    cases hn : lk i out.nw with
    | some x =>
      rw [hn] at h; injection h with h; subst h
      obtain ⟨j, a1, a2, a3, a4, a5⟩ := (hnew i).1 x hn
      have hsrc : src i = j := by
        show (if i ∈ ns then renId ns js i else i) = j
        rw [if_pos a4, ← a3, renId_inv hlen ho.nodup hns a1]
      have hioi : g''.io i = g'.io j := by rw [← a3]; exact hio j (.inr a1)
      unfold goodObj at a5
      split at a5
      · rename_i o0 hs0
        obtain ⟨rfl, hids⟩ := a5
        exact ⟨(hi'.obj j o0 hs0).ren (g' := g'') (fun _ _ h => h) hioi (AObj.ids_mono (fun i => hio i) hids), by rw [hsrc]; exact hioi, ⟨o0, by rw [hsrc]; exact hs0⟩, .inl a4⟩
      · exact a5.elim
    | none =>
      rw [hn] at h
      simp only at h
      have hnn : i ∉ ns := fun hm => by
        obtain ⟨o, hlo⟩ := (hnew i).2 hm
        rw [hn] at hlo; cases hlo
      have hsrc : src i = i := if_neg hnn
      cases hu : lk i out.u with
      | some x =>
        rw [hu] at h; simp only at h; subst h
        obtain ⟨o', ho'⟩ := updOk_lk ho.upd i _ hu
        have hk : hasKey i l = true := by simp [hasKey, ho']
        have := oldOk_lk ho.old i o' ho'
        rw [hu] at this
        simp only [goodObj] at this
        split at this
        · rename_i o0 hs0
          obtain ⟨rfl, hids⟩ := this
          have hioi : g''.io i = g'.io i := old i (hkey i hk)
          exact ⟨(hi'.obj i o0 hs0).ren (g' := g'') (fun _ _ h => h) hioi (AObj.ids_mono (fun i => hio i) hids), by rw [hsrc]; exact hioi, ⟨o0, by rw [hsrc]; exact hs0⟩, .inr (hkeyB i hk)⟩
        · exact this.elim
      | none =>
        rw [hu] at h; simp only at h
        have hob := hi.obj i o h
        have hsf : s.f i = some o := by
          cases hk : lk i l with
          | some o' =>
            have := oldOk_lk ho.old i o' hk
            rw [hu] at this
            have h2 := hl i o' hk
            rw [h2] at h; injection h with h; subst h
            exact this
          | none =>
            have hiB := hfB i o h
            have hls : lk i s.l = none := by
              cases hls : lk i s.l with
              | none => rfl
              | some x =>
                rcases keysIn_lk ho.keys i x hls with h' | h'
                · rw [hsB] at h'; omega
                · simp [hasKey, hk] at h'
            simp only [MS.f, hls, hsB, hiB, if_true, hf0, hasKey, hk]
            simpa using h
        exact ⟨(hi'.obj i o hsf).turn (fun _ _ h => h) (hio2 i hob.has) (AObj.ids_mono (fun i => hio2 i) hob.named), by rw [hsrc]; exact hio2 i hob.has, ⟨o, by rw [hsrc]; exact hsf⟩, .inr (hfB i o h)⟩
  have hinj : ∀ i j, (i ∈ ns ∨ i < B) → (j ∈ ns ∨ j < B) → src i = src j → i = j := by
    have hinv : ∀ n, n ∈ ns → renId js ns (renId ns js n) = n ∧ renId ns js n ∈ js := fun n hn => ⟨renId_inv hlen.symm hns ho.nodup hn, renId_mem hlen.symm hn⟩
    intro i j h1 h2 e
    have e : (if i ∈ ns then renId ns js i else i) = (if j ∈ ns then renId ns js j else j) := e
    by_cases hi : i ∈ ns <;> by_cases hj : j ∈ ns
    · rw [if_pos hi, if_pos hj] at e
      rw [← (hinv i hi).1, ← (hinv j hj).1, e]
    · rw [if_pos hi, if_neg hj] at e
      have := hjsB _ (hinv i hi).2
      have := h2.resolve_left hj
      omega
    · rw [if_neg hi, if_pos hj] at e
      have := hjsB _ (hinv j hj).2
      have := h1.resolve_left hi
      omega
    · rw [if_neg hi, if_neg hj] at e; exact e
  refine ⟨g'', ⟨fun i e h => ?_, fun b o h => hle.H b o h⟩, ⟨?_, ?_, ?_, ?_, ?_, fun i cs e => ⟨(hi'.gl i cs e).1.turn (fun _ _ h => h) trivial, (hi'.gl i cs e).2⟩⟩, ?_, ?_⟩
  · rw [hio2 i (by rw [h]; rfl)]; exact hle.io i e h
  · exact hi'.hH
  · exact fun i o h => (hobj i o h).1
  · intro i j o o' e e' h1 h2 h3 h4 z1 z2 h5
    obtain ⟨_, a2, ⟨o1, a3⟩, a4⟩ := hobj i o h1
    obtain ⟨_, b2, ⟨o2, b3⟩, b4⟩ := hobj j o' h2
    rw [a2] at h3; rw [b2] at h4
    exact hinj i j a4 b4 (hi'.inj _ _ _ _ _ _ a3 b3 h3 h4 z1 z2 h5)
  · intro i o e h1 h2 z
    obtain ⟨_, a2, ⟨o1, a3⟩, a4⟩ := hobj i o h1
    rw [a2] at h2
    exact hi'.dis _ _ _ a3 h2 z
  · intro i h
    show (if i ∈ ns then _ else if σ.fr i then none else g'.io i) = none
    rw [if_neg, if_pos h.1]
    intro hm
    obtain ⟨o, hlo⟩ := (hnew i).2 hm
    rw [h.2] at hlo; cases hlo
  · intro x hx
    exact newOk_keys ho.nw x hx
  · intro p v hp hr
    exact hr.ren (fun _ _ h => h) (ids_mono (fun i => hio i) _ ((idsL_iff _ _).1 ho.ids p hp))
theorem callF_ofC {f : FuncId} {fn : Func} {c : Code} {N : Nat} {args : List PV} {l : List (Nat × AObj)} {k : Nat} {Ω : List Nat → COut → Prop} (hf : P.funcs[f]? = some fn) (hb : fn.body = some c) (hN : fn.ntmps = N) (hargs : args.length ≤ N)
    (h : ∀ f0 B ns, (∀ i, hasKey i l = true → i < B) → ns.length = k → wpM P none N c ⟨envOf 0 args, l, cutL l f0, B, B, []⟩ (retQ P fn.results.toList l (cutL l f0) B ns Ω)) : CallF P f args l k Ω := by
  intro σ ns hinf hl hk hnd hnf g w vals hvals hi
  obtain ⟨B, hB⟩ := hinf
  have hkB : ∀ i, hasKey i l = true → i < B := by
    intro i h
    obtain ⟨o, ho⟩ := Option.isSome_iff_exists.1 h
    rcases Nat.lt_or_ge i B with h' | h'
    · exact h'
    · have := (hi.obj i o (hl i o ho)).has
      rw [hi.fr i (hB i h')] at this; cases this
  let f0 : Nat → Option AObj := fun i => if hasKey i l = true then none else σ.f i
  have hwp := h σ.f B ns hkB hk
  refine callsIn_of_wp hf hb trivial ?_
  rw [hN]
  have hsize : (vals ++ Array.replicate (N - vals.size) undef).size = N := by simp [hvals.1]; omega
  have hRA : RA P g N (MS.st ⟨envOf 0 args, l, f0, B, B, []⟩) { tmps := vals ++ Array.replicate (N - vals.size) undef, defers := [] } := by
    refine ⟨⟨hsize, fun t p hp => ?_, hi.gl⟩, trivial⟩
    obtain ⟨_, h2, h3⟩ := get_envOf 0 args t p hp
    simp only [Nat.sub_zero] at h2 h3
    subst h3
    have := hvals.2 t h2
    have hlt : t < vals.size := by rw [hvals.1]; exact h2
    simpa [Array.getD_eq_getD_getElem?, Array.getElem?_append_left hlt] using this
  have hI : Inv P g (MS.st ⟨envOf 0 args, l, f0, B, B, []⟩).σ w := by
    refine hi.weak (fun i o h => ?_) (fun i h => hB i h)
    simp only [MS.st, MS.σ, MS.f] at h
    cases hk : lk i l with
    | some x => rw [hk] at h; injection h with h; subst h; exact hl i x hk
    | none =>
      rw [hk] at h
      simp only at h
      split at h
      · simpa [f0, hasKey, hk] using h
      · cases h
  refine wpIn_mono (hwp g w _ hRA hI) ?_
  rintro e a' w' ⟨g', ea, st', h1, h2, h3, h4, h5, s, hw, hq⟩
  have h3' := h3.weak hw
  have h4' : Inv P g' s.σ w' := h4.weak hw.f hw.fr
  have fin := fun (js : List Nat) (rs : List PV) (pan : Option PV) (out : COut) (e1 : s.f0 = f0) (e2 : s.B = B) (ho : OutOk l s js ns rs pan out) => leave_ok hi hB hl hnd hnf e1 e2 h4' h1 ho
  have packed : ∀ (rs : List PV) (ρ : Nat → Nat) (g'' : Gh) (v : Value), (∀ p v, p ∈ rs → R P g' p v → R P g'' (p.ren ρ) v) → R P g' (packA rs) v → R P g'' (packA (PV.renL ρ rs)) v := by
    intro rs ρ g'' v ht hr
    match rs, ht, hr with
    | [], _, hr => cases hr with
      | tuple _ vs hl _ => exact .tuple _ vs hl (fun j hj => by simp [PV.renL] at hj)
    | [p], ht, hr => exact ht p v (by simp) hr
    | p :: q :: r, ht, hr =>
      simp only [packA, PV.renL] at hr ⊢
      cases hr with
      | tuple _ vs hl hr' =>
        have e0 : p.ren ρ :: q.ren ρ :: PV.renL ρ r = (p :: q :: r).map (PV.ren ρ) := by simp [renL_map]
        rw [e0]
        refine .tuple _ vs (by simpa using hl) (fun j hj => ?_)
        have hj' : j < (p :: q :: r).length := by simpa using hj
        rw [List.getElem_map]
        exact ht _ _ (List.getElem_mem hj') (hr' j hj')
  have df0 : s.df = [] → a'.defers = [] := by
    intro hd
    have := h3'.df
    simp only [MS.st, hd] at this
    match hds : a'.defers, this with
    | [], _ => rfl
    | _ :: _, h => exact h.elim
  have retn : (s.f0 = f0 ∧ s.B = B ∧ s.df = [] ∧ ∃ js rs out, Ω ns out ∧ out.pan = none ∧ resA P s.σ s.env fn.results.toList = some rs ∧ OutOk l s js ns rs none out) →
      a'.defers = [] ∧ ∃ v, (results fn a'.tmps).run P w' = .ok v w' ∧ callPost P g w σ ns (Ω ns) (.returned v) w' := by
    rintro ⟨e1, e2, e3, js, rs, out, k1, k2, k3, k4⟩
    obtain ⟨v, r1, r2⟩ := results_ok (P := P) h3'.env h4' k3
    obtain ⟨g'', m1, m2, m3, m4⟩ := fin js rs none out e1 e2 k4
    exact ⟨df0 e3, v, r1, g'', out, m1, h5, m2, m3, k1, by rw [k2, k4.rs]; exact packed rs _ g'' v (fun p v hp => m4 p v (by simp [hp])) r2⟩
  cases e with
  | normal =>
    obtain rfl := RExit_normal h2
    exact retn hq
  | ret =>
    cases ea <;> simp only [RExit] at h2
    exact retn hq
  | panic ch =>
    cases ea <;> simp only [RExit] at h2
    rename_i v
    obtain ⟨u, rfl, hu⟩ := h2
    obtain ⟨e1, e2, e3, js, out, k1, k4⟩ := hq
    obtain ⟨g'', m1, m2, m3, m4⟩ := fin js [] (some v) out e1 e2 k4
    refine ⟨df0 e3, g'', out, m1, h5, m2, m3, k1, ?_⟩
    rw [k4.pan]
    exact ⟨u, rfl, m4 v u (by simp) hu⟩
  | exit id => cases ea <;> first | (simp only [RExit] at h2; done) | exact hq.elim
  | goto id => cases ea <;> first | (simp only [RExit] at h2; done) | exact hq.elim
  | outgrown => cases ea <;> simp only [RExit] at h2
theorem callF_of {f : FuncId} {fn : Func} {c : Code} {N : Nat} {args : List PV} {l : List (Nat × AObj)} {k : Nat} {Ω : List Nat → COut → Prop} (hf : P.funcs[f]? = some fn) (hb : fn.body = some c) (hN : fn.ntmps = N) (hargs : args.length ≤ N)
    (h : ∀ f0 B ns, (∀ i, hasKey i l = true → i < B) → ns.length = k → wpM P none N c ⟨envOf 0 args, l, f0, B, B, []⟩ (retQ P fn.results.toList l f0 B ns Ω)) : CallF P f args l k Ω :=
  callF_ofC hf hb hN hargs fun f0 => h _
end
end Sg
namespace Sg
open Go
set_option linter.unusedSectionVars false
variable [Glob]
section
variable {P : Program} {r : Option Nat} {N : Nat}
omit [Glob] in
theorem RL.append {g : Gh} {l l' : List PV} {a a' : Array Value} (h : RL P g l a) (h' : RL P g l' a') : RL P g (l ++ l') (a ++ a') := by
  refine ⟨by simp [h.1, h'.1], fun j hj => ?_⟩
  by_cases hlt : j < l.length
  · have e : (a ++ a').getD j undef = a.getD j undef := by
      simp only [Array.getD_eq_getD_getElem?]; rw [Array.getElem?_append_left (by rw [h.1]; exact hlt)]
    rw [List.getElem_append_left hlt, e]; exact h.2 j hlt
  · have e : (a ++ a').getD j undef = a'.getD (j - l.length) undef := by
      simp only [Array.getD_eq_getD_getElem?]; rw [Array.getElem?_append_right (by rw [h.1]; omega), h.1]
    have hj' : j - l.length < l'.length := by simp at hj; omega
    rw [List.getElem_append_right (by omega), e]; exact h'.2 _ hj'
theorem evs_RL {g : Gh} {st : St} {a : Act} (ha : RA P g N st a) {as : Array Operand} {ps : List PV} (h : evs st.env as.toList = some ps) : RL P g ps (as.map a.eval) := by
  have := evs_ok ha _ _ h
  have hx : (as.toList.map a.eval).toArray = as.map a.eval := by rw [← Array.toList_map]
  rwa [hx] at this
def callK (s : MS) (d : Option Nat) (k : Nat) (Ω : List Nat → COut → Prop) (K : MS → Prop) (X : PV → MS → Prop) : Prop :=
  ∀ out, Ω (List.range' s.M k) out → okDel s.B s.f0 out.u ∧
    match out.pan with
    | none => K (s.out d ⟨packA out.rs, out.u, out.nw⟩ (s.M + k))
    | some v => X v (s.out none ⟨.tuple [], out.u, out.nw⟩ (s.M + k))
omit [Glob] in
theorem lk_none_of {nw : List (Nat × AObj)} {M' i : Nat} (h : ∀ x ∈ nw, x.1 < M') (hi : M' ≤ i) : lk i nw = none := by
  induction nw with
  | nil => rfl
  | cons y nw ih =>
    simp only [lk]
    rw [if_neg (by have := h y (by simp); omega)]
    exact ih fun x hx => h x (by simp [hx])
theorem call_core {o : Oper} {s : MS} {K : MS → Prop} {X : PV → MS → Prop} {f : FuncId} {args : List PV} {l : List (Nat × AObj)} {k : Nat} {Ω : List Nat → COut → Prop}
    (hdef : ∀ c, o.op ≠ .defer c) (hd : dstOk N o.dst = true) (hc : CallF P f args l k Ω) (hl : ∀ i o, lk i l = some o → s.f i = some o)
    (hrun : ∀ g w a, RA P g N s.st a → Inv P g s.σ w → ∃ vals, RL P g args vals ∧ (execOp a.eval o).run P w = .ok (.enter f vals) w)
    (hk : callK s o.dst k Ω K X) : OpM P r N o s K X := by
  intro g w a ha hi next Q' h1 h2
  obtain ⟨vals, hv, hr⟩ := hrun g w a ha hi
  refine ⟨fun _ _ => trivial, ?_⟩
  rw [Oper.semAt_eq _ _ _ hdef, hr, Oper.uponIn_enter]
  refine ⟨fun h => (by cases h), ?_⟩
  have hcall : CallsIn (Fe none) 0 P f vals w (callPost P g w s.σ (List.range' s.M k) (Ω (List.range' s.M k))) :=
    hc s.σ (List.range' s.M k) ⟨s.M, fun i h => h⟩ hl (by simp) List.nodup_range' (fun n hn => (List.mem_range'_1.1 hn).1) g w vals hv hi
  have hcall' : CallsIn (Fe r) (0 - 1) P f vals w (callPost P g w s.σ (List.range' s.M k) (Ω (List.range' s.M k))) := hcall
  refine hcall'.mono ?_
  rintro e w' ⟨g', out, k1, k2, k3, k4, k5, k6⟩
  obtain ⟨hdel, hkk⟩ := hk out k5
  have m1 : s.M ≤ s.M + k := Nat.le_add_right _ _
  have hn : ∀ i, s.M + k ≤ i → lk i out.nw = none := fun i hi => lk_none_of (fun x hx => (List.mem_range'_1.1 (k4 x hx)).2) hi
  cases e with
  | returned v =>
    cases hp : out.pan with
    | some p => rw [hp] at k6; exact k6.elim
    | none =>
      rw [hp] at k6 hkk
      have ha' := (ha.mono k1).put hd k6
      refine h1 g' { s.st with env := put s.st.env o.dst (packA out.rs), σ := s.st.σ.after out.u out.nw } _ w' k1 ⟨ha'.env, ha'.df⟩ k3 k2 ?_
      exact ⟨_, weak_out (o := ⟨packA out.rs, out.u, out.nw⟩) m1 hn hdel, hkk⟩
  | panicked ch =>
    cases hp : out.pan with
    | none => rw [hp] at k6; exact k6.elim
    | some p =>
      rw [hp] at k6 hkk
      obtain ⟨u, rfl, hu⟩ := k6
      have ha' := ha.mono k1
      refine h2 g' { s.st with σ := s.st.σ.after out.u out.nw } a w' p u k1 ⟨ha'.env, ha'.df⟩ k3 k2 hu ?_
      refine ⟨_, Weak.trans ?_ (weak_out (d := none) (o := ⟨.tuple [], out.u, out.nw⟩) m1 hn hdel), hkk⟩
      exact .refl _
  | outgrown => cases hp : out.pan <;> rw [hp] at k6 <;> exact k6.elim
omit [Glob] in
theorem resolve_value {ρ : Operand → Value} {x : Operand} {as : Array Operand} {ts : Array TypeId} {t : TypeId} {f : FuncId} {va vc : Array Value} (hx : ρ x = .func (.func f) va vc) (henter : ∀ args w, (callFunc f args).run P w = .ok (.enter f args) w) (w : World) :
    (do let d ← resolve ρ { callee := .value x, args := as, argTypes := ts } t; invoke d.target d.args : Sem Next).run P w = .ok (.enter f (va ++ as.map ρ ++ vc)) w := by
  simp only [resolve, hx, Deferred.ofValue, Sem.run_bind, Sem.run_pure, Result.andThen_ok, invoke, henter]
theorem OpM_call {o : Oper} {s : MS} {K : MS → Prop} {X : PV → MS → Prop} {x : Operand} {as : Array Operand} {ts : Array TypeId} {f : FuncId} {first cap ps : List PV} {l : List (Nat × AObj)} {k : Nat} {Ω : List Nat → COut → Prop}
    (ho : o.op = .call { callee := .value x, args := as, argTypes := ts }) (hd : dstOk N o.dst = true) (hx : ev s.env x = some (.fn (.func f) first cap)) (ha : evs s.env as.toList = some ps)
    (henter : ∀ args w, (callFunc f args).run P w = .ok (.enter f args) w) (hc : CallF P f (first ++ ps ++ cap) l k Ω) (hl : ∀ i o, lk i l = some o → s.f i = some o)
    (hk : callK s o.dst k Ω K X) : OpM P r N o s K X := by
  refine call_core ?_ hd hc hl ?_ hk
  · intro c h; rw [ho] at h; cases h
  · intro g w a hra hi
    have h1 := R_ev hra hx
    have h2 := evs_RL hra ha
    generalize hv : a.eval x = v at h1
    cases h1 with
    | fn _ _ _ va vc e1 e2 e3 e4 =>
      refine ⟨va ++ as.map a.eval ++ vc, (RL.append ⟨e1, e3⟩ h2).append ⟨e2, e4⟩, ?_⟩
      unfold execOp
      simp only [ho]
      exact resolve_value hv henter w
omit [Glob] in
theorem resolve_invoke {ρ : Operand → Value} {x : Operand} {m : String} {as : Array Operand} {ts : Array TypeId} {t rt : TypeId} {f : FuncId} {v : Value} (hx : ρ x = .iface rt v)
    (hm : ∀ (v : Value) w, (method (P.types.size + Made.depth) rt v m).run P w = .ok (f, v) w) (henter : ∀ args w, (callFunc f args).run P w = .ok (.enter f args) w) (w : World) :
    (do let d ← resolve ρ { callee := .invoke x m, args := as, argTypes := ts } t; invoke d.target d.args : Sem Next).run P w = .ok (.enter f (#[v] ++ as.map ρ)) w := by
  have e : (#[Value.iface rt v] ++ Array.map ρ as).extract 1 (#[Value.iface rt v] ++ Array.map ρ as).size = Array.map ρ as := by
    apply Array.ext'
    simp
    rw [List.take_of_length_le (by simp)]
  have e0 : (#[Value.iface rt v] ++ Array.map ρ as)[0]? = some (Value.iface rt v) := by rw [Array.getElem?_append_left (by simp)]; rfl
  have hp : (program : Sem Program).run P w = .ok P w := rfl
  simp only [resolve, hx, Sem.run_bind, Sem.run_pure, Result.andThen_ok, invoke, e0, callMethod, e, hp, hm, henter]
theorem OpM_invoke {o : Oper} {s : MS} {K : MS → Prop} {X : PV → MS → Prop} {x : Operand} {m : String} {as : Array Operand} {ts : Array TypeId} {f : FuncId} {rt : TypeId} {recv : PV} {ps : List PV} {l : List (Nat × AObj)} {k : Nat} {Ω : List Nat → COut → Prop}
    (ho : o.op = .call { callee := .invoke x m, args := as, argTypes := ts }) (hd : dstOk N o.dst = true) (hx : ev s.env x = some (.iface rt recv)) (ha : evs s.env as.toList = some ps)
    (hm : ∀ (v : Value) w, (method (P.types.size + Made.depth) rt v m).run P w = .ok (f, v) w)
    (henter : ∀ args w, (callFunc f args).run P w = .ok (.enter f args) w) (hc : CallF P f (recv :: ps) l k Ω) (hl : ∀ i o, lk i l = some o → s.f i = some o)
    (hk : callK s o.dst k Ω K X) : OpM P r N o s K X := by
  refine call_core ?_ hd hc hl ?_ hk
  · intro c h; rw [ho] at h; cases h
  · intro g w a hra hi
    have h1 := R_ev hra hx
    have h2 := evs_RL hra ha
    generalize hv : a.eval x = v at h1
    cases h1 with
    | iface _ _ u h1 =>
      refine ⟨#[u] ++ as.map a.eval, RL.append (l := [recv]) (a := #[u]) ⟨rfl, fun j hj => ?_⟩ h2, ?_⟩
      · match j, hj with
        | 0, _ => exact h1
      · unfold execOp
        simp only [ho]
        exact resolve_invoke hv hm henter w
omit [Glob] in
theorem callK_pure {s : MS} {d : Option Nat} {K : MS → Prop} {X : PV → MS → Prop} {rs : List PV} (h : K { s with env := put s.env d (packA rs) }) : callK s d 0 (fun _ o => o = { rs := rs }) K X := by
  rintro out rfl
  exact ⟨trivial, h⟩
end
end Sg
namespace Sg
open Go
variable [Glob]
omit [Glob] in
@[go_sem] theorem okDel_nil (B : Nat) (f0 : Nat → Option AObj) : okDel B f0 [] = True := rfl
omit [Glob] in
@[go_sem] theorem okDel_set (B : Nat) (f0 : Nat → Option AObj) (i : Nat) (o : AObj) (u : List (Nat × Option AObj)) : okDel B f0 ((i, some o) :: u) = okDel B f0 u := rfl
omit [Glob] in
@[go_sem high] theorem okDel_ge (B : Nat) (f0 : Nat → Option AObj) (i : Nat) (u : List (Nat × Option AObj)) (h : B ≤ i) : okDel B f0 ((i, none) :: u) = okDel B f0 u := by simp [okDel, h]
def delK (l : List (Nat × AObj)) (B : Nat) (f0 : Nat → Option AObj) (i : Nat) : Prop := B ≤ i ∨ cutL l f0 i = none
omit [Glob] in
@[go_sem] theorem okDel_cut (B : Nat) (l : List (Nat × AObj)) (f0 : Nat → Option AObj) (i : Nat) (u : List (Nat × Option AObj)) : okDel B (cutL l f0) ((i, none) :: u) = (delK l B f0 i ∧ okDel B (cutL l f0) u) := rfl
def kpK (B : Nat) (f0 : Nat → Option AObj) (l' : List (Nat × AObj)) (k : Nat) : Prop := B ≤ k ∨ (lk k l').isSome = true ∨ f0 k = none
omit [Glob] in
@[go_sem] theorem keepB_nil (B : Nat) (f0 : Nat → Option AObj) (l' : List (Nat × AObj)) : keepB B f0 l' [] = True := rfl
omit [Glob] in
@[go_sem] theorem keepB_cons (B : Nat) (f0 : Nat → Option AObj) (l' : List (Nat × AObj)) (k : Nat) (o : AObj) (r : List (Nat × AObj)) : keepB B f0 l' ((k, o) :: r) = (kpK B f0 l' k ∧ keepB B f0 l' r) := rfl
omit [Glob] in
@[go_sem high] theorem kpK_ge (B : Nat) (f0 : Nat → Option AObj) (l' : List (Nat × AObj)) (k : Nat) (h : B ≤ k) : kpK B f0 l' k = True := by simp [kpK, h]
omit [Glob] in
@[go_sem low] theorem kpK_eq (B : Nat) (f0 : Nat → Option AObj) (l' : List (Nat × AObj)) (k : Nat) : kpK B f0 l' k = if (lk k l').isSome = true then True else (B ≤ k ∨ f0 k = none) := by
  unfold kpK
  by_cases h : (lk k l').isSome = true <;> simp [h]
def condK (o : Option PV) (A B : Prop) : Prop := ∃ b, o = some (.bool b) ∧ (b = true → A) ∧ (b = false → B)
omit [Glob] in
@[congr] theorem condK_congr {o o' : Option PV} {A B : Prop} (h : True → o = o') : condK o A B = condK o' A B := by rw [h trivial]
omit [Glob] in
@[go_sem] theorem condK_some (b : Bool) (A B : Prop) : condK (some (.bool b)) A B = ((b = true → A) ∧ (b = false → B)) := by
  cases b <;> simp [condK]
theorem wpM_condK {P : Program} {r : Option Nat} {N : Nat} {s : MS} {Q : ExitA → MS → Prop} {c : Operand} {x y : Code} (h : condK (ev s.env c) (wpM P r N x s Q) (wpM P r N y s Q)) : wpM P r N (.cond c x y) s Q := by
  obtain ⟨b, hb, h1, h2⟩ := h
  exact wpM_if hb h1 h2
omit [Glob] in
@[go_sem] theorem keepQ_normal (ks : List Nat) (Q : ExitA → MS → Prop) (s : MS) : keepQ ks Q .normal s = Q .normal (s.keep ks) := rfl
omit [Glob] in
@[go_sem] theorem keepQ_panic (ks : List Nat) (Q : ExitA → MS → Prop) (v : PV) (s : MS) : keepQ ks Q (.panic v) s = Q (.panic v) s := rfl
omit [Glob] in
@[go_sem] theorem cutQ_normal (I : MS → Prop) (Q : ExitA → MS → Prop) (s : MS) : cutQ I Q .normal s = Wk s.st I := rfl
omit [Glob] in
@[go_sem] theorem cutQ_exit (I : MS → Prop) (Q : ExitA → MS → Prop) (i : Nat) (s : MS) : cutQ I Q (.exit i) s = Q (.exit i) s := rfl
omit [Glob] in
@[go_sem] theorem cutQ_ret (I : MS → Prop) (Q : ExitA → MS → Prop) (s : MS) : cutQ I Q .ret s = Q .ret s := rfl
omit [Glob] in
@[go_sem] theorem cutQ_panic (I : MS → Prop) (Q : ExitA → MS → Prop) (v : PV) (s : MS) : cutQ I Q (.panic v) s = Q (.panic v) s := rfl
omit [Glob] in
@[go_sem] theorem keepQ_exit (ks : List Nat) (Q : ExitA → MS → Prop) (i : Nat) (s : MS) : keepQ ks Q (.exit i) s = Q (.exit i) s := rfl
omit [Glob] in
@[go_sem] theorem keepQ_ret (ks : List Nat) (Q : ExitA → MS → Prop) (s : MS) : keepQ ks Q .ret s = Q .ret s := rfl
omit [Glob] in
@[go_sem] theorem thenM_normal (K : MS → Prop) (Q : ExitA → MS → Prop) (s : MS) : ExitA.thenM K Q .normal s = K s := rfl
omit [Glob] in
@[go_sem] theorem thenM_exit (K : MS → Prop) (Q : ExitA → MS → Prop) (i : Nat) (s : MS) : ExitA.thenM K Q (.exit i) s = Q (.exit i) s := rfl
omit [Glob] in
@[go_sem] theorem thenM_goto (K : MS → Prop) (Q : ExitA → MS → Prop) (i : Nat) (s : MS) : ExitA.thenM K Q (.goto i) s = Q (.goto i) s := rfl
omit [Glob] in
@[go_sem] theorem thenM_ret (K : MS → Prop) (Q : ExitA → MS → Prop) (s : MS) : ExitA.thenM K Q .ret s = Q .ret s := rfl
omit [Glob] in
@[go_sem] theorem thenM_panic (K : MS → Prop) (Q : ExitA → MS → Prop) (v : PV) (s : MS) : ExitA.thenM K Q (.panic v) s = Q (.panic v) s := rfl
omit [Glob] in
@[go_sem] theorem inBlk_normal (id : Nat) (Q : ExitA → MS → Prop) (s : MS) : inBlk id Q .normal s = Q .normal s := rfl
omit [Glob] in
@[go_sem] theorem inBlk_exit (id i : Nat) (Q : ExitA → MS → Prop) (s : MS) : inBlk id Q (.exit i) s = if i = id then Q .normal s else Q (.exit i) s := rfl
omit [Glob] in
@[go_sem] theorem inBlk_goto (id i : Nat) (Q : ExitA → MS → Prop) (s : MS) : inBlk id Q (.goto i) s = Q (.goto i) s := rfl
omit [Glob] in
@[go_sem] theorem inBlk_ret (id : Nat) (Q : ExitA → MS → Prop) (s : MS) : inBlk id Q .ret s = Q .ret s := rfl
omit [Glob] in
@[go_sem] theorem inBlk_panic (id : Nat) (Q : ExitA → MS → Prop) (v : PV) (s : MS) : inBlk id Q (.panic v) s = Q (.panic v) s := rfl
omit [Glob] in
@[go_sem] theorem beqB_true (b : Bool) : (b == true) = b := by cases b <;> rfl
omit [Glob] in
@[go_sem] theorem beqB_false (b : Bool) : (b == false) = !b := by cases b <;> rfl
omit [Glob] in
@[go_sem] theorem get_cons (k t : Nat) (v : PV) (r : Env) : get ((k, v) :: r) t = if k = t then some v else get r t := by rw [get]
omit [Glob] in
@[go_sem] theorem get_nil (t : Nat) : get [] t = none := by rw [get]
@[go_sem] theorem ev_tmp (e : Env) (t : Nat) : ev e (.tmp t) = get e t := by rw [ev]
@[go_sem] theorem ev_const (e : Env) (v : Value) : ev e (.const v) = ofConst v := by rw [ev]
@[go_sem] theorem ev_func (e : Env) (f : FuncId) : ev e (.func f) = some (.fn (.func f) [] []) := by rw [ev]
omit [Glob] in
@[go_sem] theorem lk_cons {α : Type} (i k : Nat) (v : α) (r : List (Nat × α)) : lk i ((k, v) :: r) = if k = i then some v else lk i r := by rw [lk]
omit [Glob] in
@[go_sem] theorem lk_nil {α : Type} (i : Nat) : lk i ([] : List (Nat × α)) = none := by rw [lk]
omit [Glob] in
@[go_sem] theorem guardA_none (O : Array Oper) (e : Env) : guardA O e none = some true := by simp only [guardA]
def guardB (x : Option PV) (w : Bool) : Option Bool := match x with
  | some (.bool b) => some (b == w)
  | some (.tuple []) => some false
  | _ => none
def guardC (o : Option Oper) (e : Env) (w : Bool) : Option Bool := match o with
  | none => none
  | some o => match o.dst with
    | none => none
    | some d => guardB (get e d) w
omit [Glob] in
@[go_sem] theorem guardB_bool (b w : Bool) : guardB (some (.bool b)) w = some (b == w) := by simp only [guardB]
omit [Glob] in
@[go_sem] theorem guardB_skip (w : Bool) : guardB (some (.tuple [])) w = some false := by simp only [guardB]
omit [Glob] in
@[go_sem] theorem guardC_some (d : Nat) (op : Op) (ty : TypeId) (ps : String) (af : Array Edge) (gd : Option (Nat × Bool)) (e : Env) (w : Bool) : guardC (some ⟨some d, op, ty, ps, af, gd⟩) e w = guardB (get e d) w := by simp only [guardC]
omit [Glob] in
@[go_sem] theorem guardA_some (O : Array Oper) (e : Env) (j : Nat) (w : Bool) : guardA O e (some (j, w)) = guardC O[j]? e w := by
  simp only [guardA, guardC]
  cases O[j]? with
  | none => rfl
  | some o =>
    simp only [Option.bind_some]
    cases o.dst with
    | none => rfl
    | some d => rfl
attribute [go_sem] put setl dell updl evs evParts evO ofConst ofConsts MS.out MS.σ MS.f MS.keep keepE
attribute [go_sem] decide_true decide_false
attribute [go_sem] bindP_some bindP_none bindO_some bindO_none bindP_ite bindO_ite bindG_true bindG_false bindK_val bindK_mem bindK_call
attribute [go_sem] List.take_succ_cons List.take_zero List.take_nil List.drop_succ_cons List.drop_zero List.drop_nil List.length_cons List.length_nil List.getElem?_cons_zero List.getElem?_cons_succ List.cons_append List.nil_append
omit [Glob] in
@[go_sem] theorem splice_cons (a : PV) (l : List PV) (k : Nat) (s : List PV) : splice (a :: l) k s = (a :: l).take k ++ s ++ (a :: l).drop (k + s.length) := rfl
attribute [go_sem] PV.cellsOf PV.whole PV.cell PV.pure PV.pureL List.all_cons List.all_nil Bool.and_true Bool.true_and Bool.and_self and_true true_and and_self Option.map_some Option.map_none Option.bind_some Option.bind_none Option.some.injEq List.filter_cons List.filter_nil
attribute [go_sem] subEnv subL envOf resA keysIn oldOk newOk updOk goodObj renId PV.ren PV.renL AObj.ren AObj.ids PV.ids PV.idsL hasKey Option.isSome_some Option.isSome_none packA List.append_nil Option.toList_some Option.toList_none
omit [Glob] in
theorem bindP_ite_none (c : Prop) [Decidable c] (o : Option PV) (K : PV → Prop) : bindP (if c then none else o) K = (¬ c ∧ bindP o K) := by
  by_cases h : c <;> simp [h, bindP]
attribute [go_sem] bindP_ite_none
omit [Glob] in
theorem bindP_ite_yes (c : Prop) [Decidable c] (o : Option PV) (K : PV → Prop) (h : c) : bindP (if c then o else none) K = bindP o K := by rw [if_pos h]
omit [Glob] in
theorem bindP_ite_no (c : Prop) [Decidable c] (o : Option PV) (K : PV → Prop) (h : ¬ c) : bindP (if c then none else o) K = bindP o K := by rw [if_neg h]
omit [Glob] in
theorem bindO_ite_yes (c : Prop) [Decidable c] (o : Option Out) (K : Out → Prop) (h : c) : bindO (if c then o else none) K = bindO o K := by rw [if_pos h]
omit [Glob] in
theorem optIte_yes {α : Type} (c : Prop) [Decidable c] (a b : Option α) (h : c) : (if c then a else b) = a := if_pos h
omit [Glob] in
theorem optIte_no {α : Type} (c : Prop) [Decidable c] (a b : Option α) (h : ¬ c) : (if c then a else b) = b := if_neg h
attribute [go_sem low] optIte_yes optIte_no
attribute [go_sem high] bindP_ite_yes bindP_ite_no bindO_ite_yes
def bindGv (g : Option Bool) (o : Option PV) (K : PV → Prop) : Prop := (g = some true ∧ bindP o K) ∨ (g = some false ∧ K (.tuple []))
omit [Glob] in
@[congr] theorem bindGv_congr {g g' : Option Bool} {o : Option PV} {K : PV → Prop} (h : True → g = g') : bindGv g o K = bindGv g' o K := by rw [h trivial]
def opG (g : Option Bool) (A : Prop) (K : PV → Prop) : Prop := (g = some true ∧ A) ∨ (g = some false ∧ K (.tuple []))
omit [Glob] in
@[congr] theorem opG_congr {g g' : Option Bool} {A : Prop} {K : PV → Prop} (h : True → g = g') : opG g A K = opG g' A K := by rw [h trivial]
omit [Glob] in
@[go_sem] theorem opG_true (A : Prop) (K : PV → Prop) : opG (some true) A K = A := by simp [opG]
omit [Glob] in
@[go_sem] theorem opG_false (A : Prop) (K : PV → Prop) : opG (some false) A K = K (.tuple []) := by simp [opG]
def bindGb (b : Bool) (o : Option PV) (K : PV → Prop) : Prop := bindGv (some b) o K
omit [Glob] in
@[congr] theorem bindGb_congr {b : Bool} {o o' : Option PV} {K : PV → Prop} (h : b = true → o = o') : bindGb b o K = bindGb b o' K := by
  cases b with
  | true => rw [h rfl]
  | false => simp [bindGb, bindGv]
omit [Glob] in
@[go_sem] theorem bindGv_true (o : Option PV) (K : PV → Prop) : bindGv (some true) o K = bindP o K := by simp [bindGv]
omit [Glob] in
@[go_sem] theorem bindGv_false (o : Option PV) (K : PV → Prop) : bindGv (some false) o K = K (.tuple []) := by simp [bindGv]
omit [Glob] in
@[go_sem low] theorem bindGv_some (b : Bool) (o : Option PV) (K : PV → Prop) : bindGv (some b) o K = bindGb b o K := rfl
def gd (b : Bool) (v : PV) : PV := if b = true then v else .tuple []
omit [Glob] in
@[go_sem] theorem gd_true (v : PV) : gd true v = v := rfl
omit [Glob] in
@[go_sem] theorem gd_false (v : PV) : gd false v = .tuple [] := rfl
omit [Glob] in
theorem gd_of {b : Bool} {v : PV} (h : b = true) : gd b v = v := by rw [h]; rfl
omit [Glob] in
@[go_sem] theorem bindGb_some (b : Bool) (v : PV) (K : PV → Prop) : bindGb b (some v) K = K (gd b v) := by
  cases b <;> simp [bindGb, bindGv, bindP, gd]
theorem callG {P : Program} {r : Option Nat} {N : Nat} {ops : Array Oper} {l : List Oper} {Q : ExitA → MS → Prop} {s : MS} {o : Oper} {b : Bool} {v : PV}
    (h : ∀ (K : MS → Prop) X, b = true → K { s with env := put s.env o.dst v } → OpM P r N o s K X) (hk : kVal P r N ops l Q s o.dst (gd b v)) :
    opG (some b) (OpM P r N o s (kRun P r N ops l Q) (kPan Q)) (kVal P r N ops l Q s o.dst) := by
  cases b with
  | true => exact .inl ⟨rfl, h _ _ rfl hk⟩
  | false => exact .inr ⟨rfl, hk⟩
omit [Glob] in
@[go_sem] theorem guardB_gd (c y w : Bool) : guardB (some (gd c (.bool y))) w = some (c && (y == w)) := by cases c <;> simp [guardB, gd]
section
variable (P : Program) (r : Option Nat) (N : Nat) (ops : Array Oper) (s : MS) (Q : ExitA → MS → Prop)
@[go_sem] theorem runL_nil : runL P r N ops [] s Q = Q .normal s := rfl
@[go_sem] theorem runL_cons (o : Oper) (l : List Oper) : runL P r N ops (o :: l) s Q =
      bindK (kind o.op)
        (bindGv (guardA ops s.env o.guard) (stepV P s.σ s.env o.op) (kVal P r N ops l Q s o.dst))
        (opG (guardA ops s.env o.guard) (bindO (memA P s.σ s.env s.M o.op) (kMem P r N ops l Q s o.dst)) (kVal P r N ops l Q s o.dst))
        (opG (guardA ops s.env o.guard) (OpM P r N o s (kRun P r N ops l Q) (kPan Q)) (kVal P r N ops l Q s o.dst)) := by
  rw [runL]
  cases kind o.op <;> rfl
@[go_sem] theorem kRun_app (l : List Oper) : kRun P r N ops l Q s = runL P r N ops l s Q := rfl
omit [Glob] in
@[go_sem] theorem kPan_app (v : PV) : kPan Q v s = Q (.panic v) s := rfl
@[go_sem] theorem kWp_app (c : Code) : kWp P r N c Q s = wpM P r N c s Q := rfl
@[go_sem] theorem kVal_app (l : List Oper) (d : Option Nat) (p : PV) : kVal P r N ops l Q s d p = runL P r N ops l { s with env := put s.env d p } Q := rfl
@[go_sem] theorem kMem_app (l : List Oper) (d : Option Nat) (x : Out) : kMem P r N ops l Q s d x = (okDel s.B s.f0 x.u ∧ runL P r N ops l (s.out d x (s.M + x.nw.length)) Q) := rfl
end
section
variable (x y z : Operand) (t u : TypeId) (n : Nat) (b : Bool)
omit [Glob] in
@[go_sem] theorem kind_store : kind (.store t x y) = .mem := rfl
omit [Glob] in
@[go_sem] theorem kind_box : kind (.box t x) = .mem := rfl
omit [Glob] in
@[go_sem] theorem kind_alloc : kind (.alloc t) = .mem := rfl
omit [Glob] in
@[go_sem] theorem kind_makeMap : kind (.makeMap t none) = .mem := rfl
omit [Glob] in
@[go_sem] theorem kind_insert : kind (.insert t x y z) = .mem := rfl
omit [Glob] in
@[go_sem] theorem kind_makeSlice : kind (.makeSlice t x y) = .mem := rfl
omit [Glob] in
@[go_sem] theorem kind_buildSlice (ps : Array (Nat × Operand)) : kind (.buildSlice t n ps) = .mem := rfl
omit [Glob] in
@[go_sem] theorem kind_append (as : Array Operand) (ts : Array TypeId) : kind (.call { callee := .builtin .append, args := as, argTypes := ts }) = .mem := rfl
omit [Glob] in
@[go_sem] theorem kind_copy (as : Array Operand) (ts : Array TypeId) : kind (.call { callee := .builtin .copy, args := as, argTypes := ts }) = .mem := rfl
omit [Glob] in
@[go_sem] theorem kind_len (as : Array Operand) (ts : Array TypeId) : kind (.call { callee := .builtin .len, args := as, argTypes := ts }) = .val := rfl
omit [Glob] in
@[go_sem] theorem kind_max (as : Array Operand) (ts : Array TypeId) : kind (.call { callee := .builtin .max, args := as, argTypes := ts }) = .val := rfl
omit [Glob] in
@[go_sem] theorem kind_min (as : Array Operand) (ts : Array TypeId) : kind (.call { callee := .builtin .min, args := as, argTypes := ts }) = .val := rfl
omit [Glob] in
@[go_sem] theorem kind_value (as : Array Operand) (ts : Array TypeId) : kind (.call { callee := .value x, args := as, argTypes := ts }) = .call := rfl
omit [Glob] in
@[go_sem] theorem kind_invoke (m : String) (as : Array Operand) (ts : Array TypeId) : kind (.call { callee := .invoke x m, args := as, argTypes := ts }) = .call := rfl
omit [Glob] in
@[go_sem] theorem kind_move : kind (.move x) = .val := rfl
omit [Glob] in
@[go_sem] theorem kind_assign : kind (.assign x) = .val := rfl
omit [Glob] in
@[go_sem] theorem kind_pick : kind (.pick x y z) = .val := rfl
omit [Glob] in
@[go_sem] theorem kind_build (ps : Array (Nat × Operand)) : kind (.build t ps) = .val := rfl
omit [Glob] in
@[go_sem] theorem kind_load : kind (.load t x) = .val := rfl
omit [Glob] in
@[go_sem] theorem kind_nilCheck : kind (.nilCheck x) = .val := rfl
omit [Glob] in
@[go_sem] theorem kind_binOp (op : BinOp) : kind (.binOp op t x y u) = .val := rfl
omit [Glob] in
@[go_sem] theorem kind_unOp (op : UnOp) : kind (.unOp op t x) = .val := rfl
omit [Glob] in
@[go_sem] theorem kind_convert : kind (.convert t u x) = .val := rfl
omit [Glob] in
@[go_sem] theorem kind_arrPtr : kind (.sliceToArrayPointer t x) = .val := rfl
omit [Glob] in
@[go_sem] theorem kind_makeInterface : kind (.makeInterface t x) = .val := rfl
omit [Glob] in
@[go_sem] theorem kind_makeFunc (f : Fn) (a c : Array Operand) : kind (.makeFunc f a c) = .val := rfl
omit [Glob] in
@[go_sem] theorem kind_slice (lo hi mx : Option Operand) : kind (.slice t x lo hi mx) = .val := rfl
omit [Glob] in
@[go_sem] theorem kind_fieldAddr : kind (.fieldAddr t x n) = .val := rfl
omit [Glob] in
@[go_sem] theorem kind_field : kind (.field t x n) = .val := rfl
omit [Glob] in
@[go_sem] theorem kind_indexAddr : kind (.indexAddr t x y) = .val := rfl
omit [Glob] in
@[go_sem] theorem kind_index : kind (.index t x y) = .val := rfl
omit [Glob] in
@[go_sem] theorem kind_lookup : kind (.lookup t x y b) = .val := rfl
omit [Glob] in
@[go_sem] theorem kind_typeAssert : kind (.typeAssert x t u b) = .val := rfl
omit [Glob] in
@[go_sem] theorem kind_extract : kind (.extract x n) = .val := rfl
omit [Glob] in
@[go_sem] theorem kind_panic (o : Op) : kind (.panic x) = .call := rfl
end
def bind1 (o : Option PV) (f : PV → Option PV) : Option PV := match o with
  | some p => f p
  | none => none
def bind2 (o o' : Option PV) (f : PV → PV → Option PV) : Option PV := match o, o' with
  | some p, some q => f p q
  | _, _ => none
omit [Glob] in
@[go_sem] theorem bind1_some (p : PV) (f : PV → Option PV) : bind1 (some p) f = f p := rfl
omit [Glob] in
@[go_sem] theorem bind2_some (p q : PV) (f : PV → PV → Option PV) : bind2 (some p) (some q) f = f p q := rfl
omit [Glob] in
@[congr] theorem bind1_congr {o o' : Option PV} {f : PV → Option PV} (h : True → o = o') : bind1 o f = bind1 o' f := by rw [h trivial]
omit [Glob] in
@[congr] theorem bind2_congr {o o' q q' : Option PV} {f : PV → PV → Option PV} (h : True → o = o') (k : True → q = q') : bind2 o q f = bind2 o' q' f := by rw [h trivial, k trivial]
section
variable (P : Program) (σ : Store) (env : Env) (x y z : Operand) (t u : TypeId) (n : Nat) (b : Bool)
@[go_sem] theorem stepV_move : stepV P σ env (.move x) = ev env x := rfl
@[go_sem] theorem stepV_assign : stepV P σ env (.assign x) = ev env x := rfl
def pickA (c : Option PV) (a b : Option PV) : Option PV := match c with
  | some (.bool true) => a
  | some (.bool false) => b
  | _ => none
omit [Glob] in
@[go_sem] theorem pickA_true (a b : Option PV) : pickA (some (.bool true)) a b = a := rfl
omit [Glob] in
@[go_sem] theorem pickA_false (a b : Option PV) : pickA (some (.bool false)) a b = b := rfl
omit [Glob] in
@[congr] theorem pickA_congr {c c' a b a' b' : Option PV} (h : c = c') (ha : a = a') (hb : b = b') : pickA c a b = pickA c' a' b' := by rw [h, ha, hb]
omit [Glob] in
@[go_sem] theorem pickA_and (c y : Bool) : pickA (some (.bool c)) (some (gd c (.bool y))) (some (.bool false)) = some (.bool (c && y)) := by cases c <;> rfl
omit [Glob] in
@[go_sem] theorem pickA_or (c y : Bool) : pickA (some (.bool c)) (some (.bool true)) (some (gd (!c) (.bool y))) = some (.bool (c || y)) := by cases c <;> rfl
omit [Glob] in
@[go_sem] theorem pickA_and' (c y : Bool) : pickA (some (.bool c)) (some (.bool y)) (some (.bool false)) = some (.bool (c && y)) := by cases c <;> cases y <;> rfl
omit [Glob] in
@[go_sem] theorem pickA_or' (c y : Bool) : pickA (some (.bool c)) (some (.bool true)) (some (.bool y)) = some (.bool (c || y)) := by cases c <;> cases y <;> rfl
@[go_sem] theorem stepV_pick : stepV P σ env (.pick x y z) = pickA (ev env x) (ev env y) (ev env z) := by
  simp only [stepV]
  cases h : ev env x with
  | none => rfl
  | some p =>
    cases p with
    | bool b => cases b <;> rfl
    | _ => rfl
@[go_sem] theorem stepV_build (ps : Array (Nat × Operand)) : stepV P σ env (.build t ps) = (match evParts env ps.toList with | some ps => buildA P t ps | none => none) := rfl
@[go_sem] theorem stepV_load : stepV P σ env (.load t x) = bind1 (ev env x) (loadA P σ t) := by cases h : ev env x <;> simp [stepV, bind1, h]
@[go_sem] theorem stepV_nilCheck : stepV P σ env (.nilCheck x) = bind1 (ev env x) nilCheckA := by cases h : ev env x <;> simp [stepV, bind1, h]
def nilK (a b : Option PV) : Option PV := match a with
  | some p => some p
  | none => b
omit [Glob] in
@[congr] theorem nilK_congr {a a' b b' : Option PV} (h : True → a = a') (k : True → b = b') : nilK a b = nilK a' b' := by rw [h trivial, k trivial]
omit [Glob] in
@[go_sem] theorem nilK_some (p : PV) (b : Option PV) : nilK (some p) b = some p := rfl
omit [Glob] in
@[go_sem] theorem nilK_none (b : Option PV) : nilK none b = b := rfl
omit [Glob] in
@[go_sem] theorem nilCmp_tmp (op : BinOp) (xo : Option PV) (i : Nat) : nilCmp P op t xo (.tmp i) = none := rfl
omit [Glob] in
@[go_sem] theorem nilCmp_func (op : BinOp) (xo : Option PV) (i : Nat) : nilCmp P op t xo (.func i) = none := rfl
omit [Glob] in
@[go_sem] theorem nilCmp_int (op : BinOp) (xo : Option PV) (k : IntKind) (i : Int) : nilCmp P op t xo (.const (.int k i)) = none := rfl
omit [Glob] in
@[go_sem] theorem nilCmp_bool (op : BinOp) (xo : Option PV) (i : Bool) : nilCmp P op t xo (.const (.bool i)) = none := rfl
omit [Glob] in
@[go_sem] theorem nilCmp_str (op : BinOp) (xo : Option PV) (i : ByteArray) : nilCmp P op t xo (.const (.string i)) = none := rfl
omit [Glob] in
@[go_sem] theorem nilCmp_nilIface (op : BinOp) (xo : Option PV) : nilCmp P op t xo (.const .nilIface) = none := rfl
omit [Glob] in
@[go_sem] theorem nilCmp_nilFunc (op : BinOp) (xo : Option PV) : nilCmp P op t xo (.const .nilFunc) = none := rfl
omit [Glob] in
@[go_sem] theorem nilCmp_ptr (op : BinOp) (xo : Option PV) (p : Option Addr) : nilCmp P op t xo (.const (.pointer p)) = none := rfl
omit [Glob] in
@[go_sem] theorem nilCmp_map (op : BinOp) (xo : Option PV) (p : Option Nat) : nilCmp P op t xo (.const (.map p)) = none := rfl
omit [Glob] in
@[go_sem] theorem nilCmp_nil (op : BinOp) (xo : Option PV) : nilCmp P op t xo (.const (.slice none 0 0)) = nilCmp2 P op t xo := rfl
attribute [go_sem] nilCmp2 shiftA
@[go_sem] theorem stepV_binOp (op : BinOp) : stepV P σ env (.binOp op t x y u) = nilK (nilCmp P op t (ev env x) y) (bind2 (ev env x) (ev env y) (binOpA P op t x y)) := by
  simp only [stepV, nilK, bind2]
  cases nilCmp P op t (ev env x) y with
  | some p => rfl
  | none => cases h : ev env x <;> cases h' : ev env y <;> rfl
@[go_sem] theorem stepV_unOp (op : UnOp) : stepV P σ env (.unOp op t x) = bind1 (ev env x) (unOpA op) := by cases h : ev env x <;> simp [stepV, bind1, h]
@[go_sem] theorem stepV_makeInterface : stepV P σ env (.makeInterface t x) = bind1 (ev env x) (ifaceA P t) := by cases h : ev env x <;> simp [stepV, bind1, h]
@[go_sem] theorem stepV_makeFunc (f : Fn) (a c : Array Operand) : stepV P σ env (.makeFunc f a c) = (match evs env a.toList, evs env c.toList with | some p, some q => some (.fn f p q) | _, _ => none) := rfl
@[go_sem] theorem stepV_slice (lo hi : Option Operand) : stepV P σ env (.slice t x lo hi none) = (match ev env x, evO env lo, evO env hi with | some p, some l, some h => sliceA P σ t p l h | _, _, _ => none) := rfl
@[go_sem] theorem stepV_slice3 (lo hi : Option Operand) (mx : Operand) : stepV P σ env (.slice t x lo hi (some mx)) = (match ev env x, evO env lo, evO env hi, ev env mx with | some p, some l, some h, some m => slice0A P t p l h m | _, _, _, _ => none) := rfl
@[go_sem] theorem stepV_fieldAddr : stepV P σ env (.fieldAddr t x n) = bind1 (ev env x) (fieldAddrA P t n) := by cases h : ev env x <;> simp [stepV, bind1, h]
def idxA (f : PV → Int → Option PV) (p i : PV) : Option PV := match i with
  | .int _ n => f p n
  | _ => none
omit [Glob] in
@[go_sem] theorem idxA_int (f : PV → Int → Option PV) (p : PV) (k : IntKind) (n : Int) : idxA f p (.int k n) = f p n := rfl
@[go_sem] theorem stepV_indexAddr : stepV P σ env (.indexAddr t x y) = bind2 (ev env x) (ev env y) (idxA (indexAddrA P t)) := by
  cases h : ev env x <;> cases h' : ev env y <;> simp only [stepV, bind2, h, h']
  rename_i p i; cases i <;> rfl
@[go_sem] theorem stepV_index : stepV P σ env (.index t x y) = bind2 (ev env x) (ev env y) (idxA (indexA P t)) := by
  cases h : ev env x <;> cases h' : ev env y <;> simp only [stepV, bind2, h, h']
  rename_i p i; cases i <;> rfl
@[go_sem] theorem stepV_typeAssert : stepV P σ env (.typeAssert x t u b) = bind1 (ev env x) (assertA P u b) := by cases h : ev env x <;> simp [stepV, bind1, h]
@[go_sem] theorem stepV_extract : stepV P σ env (.extract x n) = bind1 (ev env x) (extractA n) := by cases h : ev env x <;> simp [stepV, bind1, h]
@[go_sem] theorem stepV_len : stepV P σ env (.call { callee := .builtin .len, args := #[x], argTypes := #[t] }) = bind1 (ev env x) (lenA P σ t) := by cases h : ev env x <;> simp [stepV, bind1, h]
@[go_sem] theorem stepV_max (ts : Array TypeId) : stepV P σ env (.call { callee := .builtin .max, args := #[x, y], argTypes := ts }) = bind2 (ev env x) (ev env y) (fun p q => minMaxA true [p, q]) := by cases h : ev env x <;> cases h' : ev env y <;> simp [stepV, bind2, h, h']
@[go_sem] theorem stepV_min (ts : Array TypeId) : stepV P σ env (.call { callee := .builtin .min, args := #[x, y], argTypes := ts }) = bind2 (ev env x) (ev env y) (fun p q => minMaxA false [p, q]) := by cases h : ev env x <;> cases h' : ev env y <;> simp [stepV, bind2, h, h']
omit [Glob] in
@[go_sem] theorem nilCheckA_ptr (i o : Nat) : nilCheckA (.ptr i o) = some (.ptr i o) := rfl
omit [Glob] in
@[go_sem] theorem nilCheckA_vptr (cs : List PV) : nilCheckA (.vptr cs) = some (.vptr cs) := rfl
omit [Glob] in
@[go_sem] theorem nilCheckA_iface (t : TypeId) (v : PV) : nilCheckA (.iface t v) = some (.iface t v) := rfl
omit [Glob] in
@[go_sem] theorem nilCheckA_func (f : FuncId) (a c : List PV) : nilCheckA (.fn (.func f) a c) = some (.fn (.func f) a c) := rfl
omit [Glob] in
@[go_sem] theorem nilCheckA_yield (f : Nat) (a c : List PV) : nilCheckA (.fn (.yield f) a c) = some (.fn (.yield f) a c) := rfl
omit [Glob] in
@[go_sem] theorem extractA_tuple (i : Nat) (vs : List PV) : extractA i (.tuple vs) = vs[i]? := rfl
omit [Glob] in
@[go_sem] theorem loadA_ptr (i o : Nat) : loadA P σ t (.ptr i o) = (match σ.f i with | some (.cells _ cs) => takeVar P t (cs.drop o) | _ => none) := rfl
omit [Glob] in
@[go_sem] theorem loadA_vptr (cs : List PV) : loadA P σ t (.vptr cs) = takeVar P t cs := rfl
omit [Glob] in
@[go_sem] theorem fieldAddrA_ptr (i o : Nat) : fieldAddrA P t n (.ptr i o) = (match fieldInfo P t n with | some x => some (.ptr i (o + x.1)) | none => none) := by
  simp only [fieldAddrA]; cases fieldInfo P t n <;> rfl
omit [Glob] in
@[go_sem] theorem fieldAddrA_vptr (cs : List PV) : fieldAddrA P t n (.vptr cs) = (match fieldInfo P t n with | some x => if x.1 ≤ cs.length then some (.vptr (cs.drop x.1)) else none | none => none) := rfl
attribute [go_sem] indexAddrA indexA fieldA lenA boundA objSize slice0A ifaceA assertA arrPtrA lookupA keyOk findA minMaxA
attribute [go_sem] storeO boxA makeSliceA buildSliceA appendA copyA srcA List.replicate_succ List.replicate_zero List.flatten_cons List.flatten_nil
attribute [go_sem] sliceA Nat.le_refl List.nodup_cons List.nodup_nil Nat.sub_zero
omit [Glob] in
@[go_sem] theorem unOpA_not (b : Bool) : unOpA .not (.bool b) = some (.bool !b) := rfl
omit [Glob] in
@[go_sem] theorem unOpA_neg (k : IntKind) (n : Int) : unOpA .neg (.int k n) = some (.int k (k.wrap (0 - n))) := rfl
attribute [go_sem] convA
omit [Glob] in
@[go_sem] theorem convX_int (k : IntKind) (n : Int) : convX P σ t u (.int k n) = convA P t u (.int k n) := rfl
omit [Glob] in
@[go_sem] theorem convX_str (s : ByteArray) : convX P σ t u (.str s) = convA P t u (.str s) := rfl
omit [Glob] in
@[go_sem] theorem convX_sl (e i o n : Nat) : convX P σ t u (.sl e i o n) = (match P.underlying t, P.underlying u, P.underlying e, σ.f i with
    | some (.slice e'), some .string, some (.int .u8), some (.cells _ cs) =>
      if e' = e ∧ P.cellsOf e = 1 ∧ o + n ≤ cs.length then (bytA ((cs.drop o).take n)).map fun l => .str (txt l) else none
    | _, _, _, _ => none) := rfl
attribute [go_sem] bytA
section
variable (k : IntKind) (i j : Int)
omit [Glob] in
@[go_sem] theorem bin_add : binOpA P .add t x y (.int k i) (.int k j) = some (.int k (k.wrap (i + j))) := by simp [binOpA, intOpA]
omit [Glob] in
@[go_sem] theorem bin_sub : binOpA P .sub t x y (.int k i) (.int k j) = some (.int k (k.wrap (i - j))) := by simp [binOpA, intOpA]
omit [Glob] in
@[go_sem] theorem bin_mul : binOpA P .mul t x y (.int k i) (.int k j) = some (.int k (k.wrap (i * j))) := by simp [binOpA, intOpA]
omit [Glob] in
@[go_sem] theorem bin_eql : binOpA P .eql t x y (.int k i) (.int k j) = some (.bool (i == j)) := by simp [binOpA, intOpA]
omit [Glob] in
@[go_sem] theorem bin_neq : binOpA P .neq t x y (.int k i) (.int k j) = some (.bool (i != j)) := by simp [binOpA, intOpA]
omit [Glob] in
@[go_sem] theorem bin_lss : binOpA P .lss t x y (.int k i) (.int k j) = some (.bool (decide (i < j))) := by simp [binOpA, intOpA]
omit [Glob] in
@[go_sem] theorem bin_leq : binOpA P .leq t x y (.int k i) (.int k j) = some (.bool (decide (i ≤ j))) := by simp [binOpA, intOpA]
omit [Glob] in
@[go_sem] theorem bin_gtr : binOpA P .gtr t x y (.int k i) (.int k j) = some (.bool (decide (i > j))) := by simp [binOpA, intOpA]
omit [Glob] in
@[go_sem] theorem bin_geq : binOpA P .geq t x y (.int k i) (.int k j) = some (.bool (decide (i ≥ j))) := by simp [binOpA, intOpA]
end
def bindm1 (o : Option PV) (f : PV → Option Out) : Option Out := match o with
  | some p => f p
  | none => none
def bindm2 (o o' : Option PV) (f : PV → PV → Option Out) : Option Out := match o, o' with
  | some p, some q => f p q
  | _, _ => none
omit [Glob] in
@[go_sem] theorem bindm1_some (p : PV) (f : PV → Option Out) : bindm1 (some p) f = f p := rfl
omit [Glob] in
@[go_sem] theorem bindm2_some (p q : PV) (f : PV → PV → Option Out) : bindm2 (some p) (some q) f = f p q := rfl
omit [Glob] in
@[congr] theorem bindm1_congr {o o' : Option PV} {f : PV → Option Out} (h : True → o = o') : bindm1 o f = bindm1 o' f := by rw [h trivial]
omit [Glob] in
@[congr] theorem bindm2_congr {o o' q q' : Option PV} {f : PV → PV → Option Out} (h : True → o = o') (k : True → q = q') : bindm2 o q f = bindm2 o' q' f := by rw [h trivial, k trivial]
def stA (P : Program) (σ : Store) (t : TypeId) (p q : PV) : Option Out := match storeO P σ t p q with
  | some (j, o) => some ⟨.tuple [], [(j, some o)], []⟩
  | none => none
omit [Glob] in
theorem stA_ptr (i o : Nat) (q : PV) : stA P σ t (.ptr i o) q = (match σ.f i with
    | some (.cells T cs) => if q.whole = true ∧ q.cellsOf.length = P.cellsOf t ∧ 0 < P.cellsOf t ∧ o + P.cellsOf t ≤ cs.length ∧ q.cellsOf.all PV.cell = true then some ⟨.tuple [], [(i, some (.cells T (splice cs o q.cellsOf)))], []⟩ else none
    | _ => none) := by
  unfold stA storeO
  simp only
  cases σ.f i with
  | none => rfl
  | some ob =>
    cases ob with
    | map es => rfl
    | loop => rfl
    | dfr => rfl
    | cells T cs =>
      by_cases h : q.whole = true ∧ q.cellsOf.length = P.cellsOf t ∧ 0 < P.cellsOf t ∧ o + P.cellsOf t ≤ cs.length ∧ q.cellsOf.all PV.cell = true
      · simp only [if_pos h]
      · simp only [if_neg h]
attribute [go_sem] stA_ptr
variable (id : Nat)
@[go_sem] theorem memA_store : memA P σ env id (.store t x y) = bindm2 (ev env x) (ev env y) (stA P σ t) := by
  cases h : ev env x <;> cases h' : ev env y <;> simp [memA, bindm2, h, h', stA]
  all_goals (rename_i p q; cases storeO P σ t p q <;> rfl)
def insB (P : Program) (σ : Store) (t : TypeId) (a b c : Option PV) : Option Out := match a, b, c with
  | some p, some k, some v => insA P σ t p k v
  | _, _, _ => none
omit [Glob] in
@[go_sem] theorem insB_some (p k v : PV) : insB P σ t (some p) (some k) (some v) = insA P σ t p k v := rfl
attribute [go_sem] insA
@[go_sem] theorem memA_box : memA P σ env id (.box t x) = bindm1 (ev env x) (boxA id t) := by cases h : ev env x <;> simp [memA, bindm1, h]
@[go_sem] theorem memA_alloc : memA P σ env id (.alloc t) = bindm1 (zeroA P t) (boxA id t) := by cases h : zeroA P t <;> simp [memA, bindm1, h]
def mkS (P : Program) (id : Nat) (t : TypeId) (p q : PV) : Option Out := match p, q with
  | .int .i64 n, .int .i64 c => makeSliceA P id t n c
  | _, _ => none
omit [Glob] in
@[go_sem] theorem mkS_int (n c : Int) : mkS P id t (.int .i64 n) (.int .i64 c) = makeSliceA P id t n c := rfl
@[go_sem] theorem memA_makeSlice : memA P σ env id (.makeSlice t x y) = bindm2 (ev env x) (ev env y) (mkS P id t) := by
  cases h : ev env x <;> cases h' : ev env y <;> simp only [memA, bindm2, h, h']
  rename_i p q
  cases p <;> first | rfl | skip
  rename_i k n
  cases k <;> cases q <;> first | rfl | (rename_i k' m; cases k' <;> rfl)
@[go_sem] theorem memA_buildSlice (ps : Array (Nat × Operand)) : memA P σ env id (.buildSlice t n ps) = (match evParts env ps.toList with | some ps => buildSliceA P id t n ps | none => none) := by
  simp only [memA] <;> rfl
@[go_sem] theorem memA_append : memA P σ env id (.call { callee := .builtin .append, args := #[x, y], argTypes := #[t, u] }) = bindm2 (ev env x) (ev env y) (appendA P σ id t u) := by
  cases h : ev env x <;> cases h' : ev env y <;> simp [memA, bindm2, h, h']
end
omit [Glob] in
omit [Glob] in
theorem wrap64 {x : Int} (h : -9223372036854775808 ≤ x ∧ x ≤ 9223372036854775807) : IntKind.i64.wrap x = x := by rw [IntKind.wrap_i64]; omega
def fillL (pl : List (Nat × Nat)) (cells : List PV) : List (Nat × PV) → Option (List PV)
  | [] => some cells
  | (i, v) :: rest => match pl[i]? with
    | none => none
    | some (off, size) => if v.cellsOf.length = size ∧ off + v.cellsOf.length ≤ cells.length ∧ v.whole = true then fillL pl (splice cells off v.cellsOf) rest else none
omit [Glob] in
theorem fillL_eq (pl : List (Nat × Nat)) : (parts : List (Nat × PV)) → (cells : List PV) → fillA (fun i => pl[i]?) cells parts = fillL pl cells parts
  | [], cells => rfl
  | (i, v) :: rest, cells => by
    simp only [fillA, fillL, fillL_eq pl rest]
    cases pl[i]? <;> rfl
omit [Glob] in
theorem buildA_of {P : Program} {t : TypeId} {z : List PV} {pl : List (Nat × Nat)} (hz : zeroA P t = some (.agg z)) (hp : placesA P t = some (fun i => pl[i]?)) (parts : List (Nat × PV)) : buildA P t parts = (match fillL pl z parts with | some cs => some (.agg cs) | none => none) := by
  unfold buildA
  rw [hz, hp]
  simp only [fillL_eq]
  cases fillL pl z parts <;> rfl
omit [Glob] in
@[go_sem] theorem fillL_nil (pl : List (Nat × Nat)) (cells : List PV) : fillL pl cells [] = some cells := by rw [fillL]
def bindPl (o : Option (Nat × Nat)) (f : Nat → Nat → Option (List PV)) : Option (List PV) := match o with
  | some (a, b) => f a b
  | none => none
omit [Glob] in
@[go_sem] theorem bindPl_some (a b : Nat) (f : Nat → Nat → Option (List PV)) : bindPl (some (a, b)) f = f a b := by rw [bindPl]
omit [Glob] in
@[congr] theorem bindPl_congr {o o' : Option (Nat × Nat)} {f : Nat → Nat → Option (List PV)} (h : True → o = o') : bindPl o f = bindPl o' f := by rw [h trivial]
omit [Glob] in
@[go_sem] theorem fillL_cons (pl : List (Nat × Nat)) (cells : List PV) (i : Nat) (v : PV) (rest : List (Nat × PV)) : fillL pl cells ((i, v) :: rest) = bindPl pl[i]? fun off size => if v.cellsOf.length = size ∧ off + v.cellsOf.length ≤ cells.length ∧ v.whole = true then fillL pl (splice cells off v.cellsOf) rest else none := by
  rw [fillL]
  cases pl[i]? <;> rfl
omit [Glob] in
theorem placesA_struct {P : Program} {t : TypeId} {fs : Array Field} {pl : List (Nat × Nat)} (hu : P.underlying t = some (.struct fs)) (h1 : fs.toList.all (fun f => (P.info? f.type).isSome) = true) (h2 : fs.toList.map (fun f => (f.offset, P.cellsOf f.type)) = pl) : placesA P t = some (fun i => pl[i]?) := by
  unfold placesA
  rw [hu]
  simp only [h1, if_true, Option.some.injEq]
  funext i
  rw [← h2]
  simp
end Sg
namespace Sg
open Go
set_option linter.unusedSectionVars false
variable [Glob]
section
variable {P : Program} {σ σ' : Store} {env env' : Env} (he : ∀ t p, get env t = some p → get env' t = some p) (hf : ∀ i o, σ.f i = some o → σ'.f i = some o)
include he
theorem ev_mono {x : Operand} {p : PV} (h : ev env x = some p) : ev env' x = some p := by
  cases x <;> first | exact he _ _ h | exact h
theorem evs_mono : {l : List Operand} → {q : List PV} → evs env l = some q → evs env' l = some q
  | [], q, h => h
  | x :: r, q, h => by
    simp only [evs] at h
    split at h
    · rename_i p q' h1 h2
      simp only [evs, ev_mono he h1, evs_mono h2]; exact h
    · cases h
theorem evParts_mono : {l : List (Nat × Operand)} → {q : List (Nat × PV)} → evParts env l = some q → evParts env' l = some q
  | [], q, h => h
  | (i, x) :: r, q, h => by
    simp only [evParts] at h
    split at h
    · rename_i p q' h1 h2
      simp only [evParts, ev_mono he h1, evParts_mono h2]; exact h
    · cases h
theorem evO_mono {x : Option Operand} {q : Option PV} (h : evO env x = some q) : evO env' x = some q := by
  cases x with
  | none => exact h
  | some x =>
    simp only [evO, Option.map_eq_some_iff] at h ⊢
    obtain ⟨p, h1, h2⟩ := h
    exact ⟨p, ev_mono he h1, h2⟩
omit he
include hf
theorem loadA_mono {t : TypeId} {p q : PV} (h : loadA P σ t p = some q) : loadA P σ' t p = some q := by
  cases p <;> simp only [loadA] at h ⊢ <;> try exact h
  split at h
  · rename_i h1; rw [hf _ _ h1]; exact h
  · cases h
theorem lenA_mono {t : TypeId} {p q : PV} (h : lenA P σ t p = some q) : lenA P σ' t p = some q := by
  unfold lenA at h ⊢
  split at h <;> first | exact h | skip
  rename_i hu
  split at h
  · rename_i h1; rw [hf _ _ h1]; exact h
  · cases h
theorem objSize_mono (id : Nat) : objSize σ id ≤ objSize σ' id := by
  unfold objSize
  split
  · rename_i h1; rw [hf _ _ h1]; exact Nat.le_refl _
  · exact Nat.zero_le _
theorem sliceA_mono {t : TypeId} {p q : PV} {lo hi : Option PV} (h : sliceA P σ t p lo hi = some q) : sliceA P σ' t p lo hi = some q := by
  unfold sliceA at h ⊢
  split at h <;> first | exact h | skip
  rename_i n e id off hu
  split at h
  · split at h
    · split at h
      · rename_i hc
        have := objSize_mono hf id
        rw [if_pos ⟨hc.1, by omega⟩]; exact h
      · cases h
    · cases h
  · cases h
theorem convX_mono {t u : TypeId} {p q : PV} (h : convX P σ t u p = some q) : convX P σ' t u p = some q := by
  unfold convX at h ⊢
  split at h
  · split at h
    · rename_i h1 h2 h3 h4
      simp only [h1, h2, h3, hf _ _ h4]; exact h
    · cases h
  · exact h
  · rename_i h1 h2
    exact h
theorem lookupA_mono {t : TypeId} {b : Bool} {m k q : PV} (h : lookupA P σ t b m k = some q) : lookupA P σ' t b m k = some q := by
  unfold lookupA at h ⊢
  split at h
  · split at h
    · rename_i h1; rw [hf _ _ h1]; exact h
    · cases h
  · cases h
theorem storeO_mono {t : TypeId} {p q : PV} {x : Nat × AObj} (h : storeO P σ t p q = some x) : storeO P σ' t p q = some x := by
  unfold storeO at h ⊢
  split at h
  · split at h
    · rename_i h1; rw [hf _ _ h1]; exact h
    · cases h
  · cases h
theorem srcA_mono {e : TypeId} {p : PV} {x : Nat × List PV} (h : srcA P σ e p = some x) : srcA P σ' e p = some x := by
  cases p <;> simp only [srcA] at h ⊢ <;> try exact h
  split at h
  · rename_i he
    rw [if_pos he]
    split at h
    · rename_i h1; rw [hf _ _ h1]; exact h
    · cases h
  · cases h
theorem appendA_mono {id : Nat} {t tx : TypeId} {p q : PV} {x : Out} (h : appendA P σ id t tx p q = some x) : appendA P σ' id t tx p q = some x := by
  unfold appendA at h ⊢
  split at h
  · split at h
    · rename_i h1 h2; rw [hf _ _ h1, srcA_mono hf h2]; exact h
    · cases h
  · split at h
    · rename_i h2; rw [srcA_mono hf h2]; exact h
    · cases h
  · cases h
theorem copyA_mono {t : TypeId} {p q : PV} {x : Out} (h : copyA P σ t p q = some x) : copyA P σ' t p q = some x := by
  unfold copyA at h ⊢
  split at h
  · split at h
    · rename_i h1 h2; simp only [hf _ _ h1, hf _ _ h2]; exact h
    · cases h
  · cases h
theorem insA_mono {t : TypeId} {p pk pv : PV} {x : Out} (h : insA P σ t p pk pv = some x) : insA P σ' t p pk pv = some x := by
  unfold insA at h ⊢
  split at h
  · split at h
    · rename_i h1; rw [hf _ _ h1]; exact h
    · cases h
  · cases h
include he
omit hf in
theorem nilCmp_mono {op : BinOp} {t : TypeId} {x y : Operand} {p : PV} (h : nilCmp P op t (ev env x) y = some p) : nilCmp P op t (ev env' x) y = some p := by
  cases hx : ev env x with
  | none =>
    rw [hx] at h
    unfold nilCmp at h
    split at h
    · simp [nilCmp2] at h
    · cases h
  | some q => rw [ev_mono he hx]; rw [hx] at h; exact h
theorem stepV_mono {op : Op} {q : PV} (h : stepV P σ env op = some q) : stepV P σ' env' op = some q := by
  have e1 := fun {x : Operand} {p : PV} (h : ev env x = some p) => ev_mono he h
  unfold stepV at h
  split at h
  · exact e1 h
  · exact e1 h
  · rename_i c a b
    split at h
    · rename_i hc; simp only [stepV, e1 hc, e1 h]
    · rename_i hc; simp only [stepV, e1 hc, e1 h]
    · cases h
  · split at h
    · rename_i hps; simp only [stepV, evParts_mono he hps]; exact h
    · cases h
  · split at h
    · rename_i hq; simp only [stepV, e1 hq]; exact loadA_mono hf h
    · cases h
  · split at h
    · rename_i hq; simp only [stepV, e1 hq]; exact h
    · cases h
  · split at h
    · rename_i p hn
      have : nilCmp P _ _ (ev env' _) _ = some p := nilCmp_mono he hn
      simp only [stepV, this]; exact h
    · rename_i hn
      split at h
      · rename_i h1 h2
        rw [h1] at hn
        simp only [stepV, e1 h1, hn, e1 h2]; exact h
      · cases h
  · split at h
    · rename_i hq; simp only [stepV, e1 hq]; exact h
    · cases h
  · split at h
    · rename_i hq; simp only [stepV, e1 hq]; exact convX_mono hf h
    · cases h
  · split at h
    · rename_i hq; simp only [stepV, e1 hq]; exact h
    · cases h
  · split at h
    · rename_i hq; simp only [stepV, e1 hq]; exact h
    · cases h
  · split at h
    · rename_i h1 h2; simp only [stepV, evs_mono he h1, evs_mono he h2]; exact h
    · cases h
  · split at h
    · rename_i h1 h2 h3; simp only [stepV, e1 h1, evO_mono he h2, evO_mono he h3]; exact sliceA_mono hf h
    · cases h
  · split at h
    · rename_i h1 h2 h3 h4; simp only [stepV, e1 h1, evO_mono he h2, evO_mono he h3, e1 h4]; exact h
    · cases h
  · split at h
    · rename_i hq; simp only [stepV, e1 hq]; exact h
    · cases h
  · split at h
    · rename_i hq; simp only [stepV, e1 hq]; exact h
    · cases h
  · split at h
    · rename_i h1 h2; simp only [stepV, e1 h1, e1 h2]; exact h
    · cases h
  · split at h
    · rename_i h1 h2; simp only [stepV, e1 h1, e1 h2]; exact h
    · cases h
  · split at h
    · rename_i h1 h2; simp only [stepV, e1 h1, e1 h2]; exact lookupA_mono hf h
    · cases h
  · split at h
    · rename_i hq; simp only [stepV, e1 hq]; exact h
    · cases h
  · split at h
    · rename_i hq; simp only [stepV, e1 hq]; exact h
    · cases h
  · split at h
    · rename_i hq; simp only [stepV, e1 hq]; exact lenA_mono hf h
    · cases h
  · split at h
    · rename_i h1 h2; simp only [stepV, e1 h1, e1 h2]; exact h
    · cases h
  · split at h
    · rename_i h1 h2; simp only [stepV, e1 h1, e1 h2]; exact h
    · cases h
  · cases h
theorem memA_mono {op : Op} {id : Nat} {q : Out} (h : memA P σ env id op = some q) : memA P σ' env' id op = some q := by
  have e1 := fun {x : Operand} {p : PV} (h : ev env x = some p) => ev_mono he h
  unfold memA at h
  split at h
  · split at h
    · rename_i h1 h2
      split at h
      · rename_i h3; simp only [memA, e1 h1, e1 h2, storeO_mono hf h3]; exact h
      · cases h
    · cases h
  · split at h
    · rename_i hq; simp only [memA, e1 hq]; exact h
    · cases h
  · split at h
    · rename_i hq; simp only [memA, hq]; exact h
    · cases h
  · exact h
  · split at h
    · rename_i h1 h2 h3; simp only [memA, e1 h1, e1 h2, e1 h3]; exact insA_mono hf h
    · cases h
  · split at h
    · rename_i h1 h2; simp only [memA, e1 h1, e1 h2]; exact h
    · cases h
  · split at h
    · rename_i hps; simp only [memA, evParts_mono he hps]; exact h
    · cases h
  · split at h
    · rename_i h1 h2; simp only [memA, e1 h1, e1 h2]; exact appendA_mono hf h
    · cases h
  · split at h
    · rename_i h1 h2; simp only [memA, e1 h1, e1 h2]; exact copyA_mono hf h
    · cases h
  · cases h
omit hf in
theorem guardA_mono {ops : Array Oper} {gd : Option (Nat × Bool)} {b : Bool} (h : guardA ops env gd = some b) : guardA ops env' gd = some b := by
  unfold guardA at h ⊢
  cases gd with
  | none => exact h
  | some jw =>
    obtain ⟨j, w⟩ := jw
    simp only at h ⊢
    split at h
    · cases h
    · rename_i d hd
      split at h
      · rename_i hg; simp only [hd, he _ _ hg]; exact h
      · rename_i hg; simp only [hd, he _ _ hg]; exact h
      · cases h
end
end Sg
namespace Sg
open Go
set_option linter.unusedSectionVars false
variable [Glob]
structure FS where
  e : Nat → Option PV
  f : Nat → Option AObj
  fr : Nat → Prop
  df : List DA
def St.fs (st : St) : FS := ⟨get st.env, st.σ.f, st.σ.fr, st.df⟩
def FS.upd (s : FS) (d : Option Nat) (o : Out) : FS :=
  { e := fun t => if d = some t then some o.v else s.e t
    f := fun i => match lk i o.nw with
      | some x => some x
      | none => match lk i o.u with
        | some x => x
        | none => s.f i
    fr := fun i => s.fr i ∧ lk i o.nw = none
    df := s.df }
omit [Glob] in
theorem get_put (env : Env) (d : Option Nat) (v : PV) (t : Nat) : get (put env d v) t = if d = some t then some v else get env t := by
  cases d with
  | none => simp [put]
  | some d =>
    simp only [put, get, Option.some.injEq]
omit [Glob] in
theorem fs_out (st : St) (d : Option Nat) (o : Out) : St.fs { st with env := put st.env d o.v, σ := st.σ.after o.u o.nw } = st.fs.upd d o := by
  simp only [St.fs, FS.upd, Store.after, FS.mk.injEq, and_true, true_and]
  exact ⟨funext fun t => get_put _ _ _ _, rfl⟩
def keepF (e : Nat → Option PV) : List Nat → Env
  | [] => []
  | t :: r => match e t with
    | some p => (t, p) :: keepF e r
    | none => keepF e r
def resF (f : Nat → Option AObj) (ro : List Nat) : Nat → Option AObj := fun i => if i ∈ ro then f i else none
omit [Glob] in
theorem get_keepF {e : Nat → Option PV} {t : Nat} {p : PV} : {rd : List Nat} → get (keepF e rd) t = some p → e t = some p
  | [], h => by simp [keepF, get] at h
  | k :: r, h => by
    simp only [keepF] at h
    split at h
    · rename_i v hv
      simp only [get] at h
      split at h
      · rename_i e; subst e; rw [hv]; exact h
      · exact get_keepF h
    · exact get_keepF h
omit [Glob] in
theorem keepF_congr {e e' : Nat → Option PV} : {rd : List Nat} → (∀ t ∈ rd, e t = e' t) → keepF e rd = keepF e' rd
  | [], _ => rfl
  | t :: r, h => by
    have ih : keepF e r = keepF e' r := keepF_congr fun t ht => h t (by simp [ht])
    simp only [keepF, h t (by simp), ih]
omit [Glob] in
theorem resF_congr {f f' : Nat → Option AObj} {ro : List Nat} (h : ∀ i ∈ ro, f i = f' i) : resF f ro = resF f' ro := by
  funext i
  simp only [resF]
  split
  · rename_i hi; exact h i hi
  · rfl
structure Ann where
  rd : List Nat
  ro : List Nat
  wo : List Nat
  nm : List Nat
  loud : Bool
def okOut (an : Ann) (o : Out) : Prop := (∀ i x, lk i o.u = some x → i ∈ an.wo) ∧ (∀ i x, lk i o.nw = some x → i ∈ an.nm)
section
variable (P : Program) (ops : Array Oper)
def floatA (o : Oper) (nm : Nat) (e : Env) (f : Nat → Option AObj) : Option Out :=
  match guardA ops e o.guard with
  | some false => some ⟨.tuple [], [], []⟩
  | some true => match kind o.op with
    | .val => match stepV P ⟨f, fun _ => False⟩ e o.op with
      | some p => some ⟨p, [], []⟩
      | none => none
    | .mem => memA P ⟨f, fun _ => False⟩ e nm o.op
    | .call => none
  | none => none
def CallOk (o : Oper) (e : Env) (fn : FuncId) (args : List PV) : Prop :=
  (∀ c, o.op ≠ .defer c) ∧ ∀ (N : Nat) (st : St) (g : Gh) (w : World) (a : Act), (∀ t p, get e t = some p → get st.env t = some p) → RA P g N st a → ∃ vals, RL P g args vals ∧ (execOp a.eval o).run P w = .ok (.enter fn vals) w
def loudA (o : Oper) (an : Ann) (e : Env) (f : Nat → Option AObj) (K : Out → Prop) : Prop :=
  (guardA ops e o.guard = some false ∧ K ⟨.tuple [], [], []⟩) ∨
  (guardA ops e o.guard = some true ∧ ∃ fn args l Ω, CallOk P o e fn args ∧ CallF P fn args l an.nm.length Ω ∧ (∀ i ob, lk i l = some ob → f i = some ob) ∧
    ∀ out, Ω an.nm out → out.pan = none ∧ K ⟨packA out.rs, out.u, out.nw⟩)
def CR (ann : Nat → Ann) : List Nat → FS → (FS → Prop) → Prop
  | [], s, Q => Q s
  | j :: l, s, Q => ∃ o, ops[j]? = some o ∧
      if (ann j).loud = true then loudA P ops o (ann j) (keepF s.e (ann j).rd) (resF s.f (ann j).ro) fun out => okOut (ann j) out ∧ CR ann l (s.upd o.dst out) Q
      else ∃ out, floatA P ops o ((ann j).nm.headD 0) (keepF s.e (ann j).rd) (resF s.f (ann j).ro) = some out ∧ okOut (ann j) out ∧ CR ann l (s.upd o.dst out) Q
end
structure Apart (da db : Option Nat) (a b : Ann) : Prop where
  ab : ∀ t, da = some t → t ∉ b.rd
  ba : ∀ t, db = some t → t ∉ a.rd
  d : ∀ t, da = some t → db ≠ some t
  wa : ∀ i ∈ a.wo, i ∉ b.ro ∧ i ∉ b.wo ∧ i ∉ b.nm
  wb : ∀ i ∈ b.wo, i ∉ a.ro ∧ i ∉ a.nm
  na : ∀ i ∈ a.nm, i ∉ b.ro ∧ i ∉ b.nm
  nb : ∀ i ∈ b.nm, i ∉ a.ro
section
variable {P : Program} {ops : Array Oper} {ann : Nat → Ann} {Q : FS → Prop}
omit [Glob] in
theorem keepF_upd {s : FS} {d : Option Nat} {o : Out} {rd : List Nat} (h : ∀ t, d = some t → t ∉ rd) : keepF (s.upd d o).e rd = keepF s.e rd := by
  refine keepF_congr fun t ht => ?_
  simp only [FS.upd]
  rw [if_neg (fun e => h t e ht)]
omit [Glob] in
theorem resF_upd {s : FS} {d : Option Nat} {o : Out} {an : Ann} (ho : okOut an o) {ro : List Nat} (h1 : ∀ i ∈ an.wo, i ∉ ro) (h2 : ∀ i ∈ an.nm, i ∉ ro) : resF (s.upd d o).f ro = resF s.f ro := by
  refine resF_congr fun i hi => ?_
  simp only [FS.upd]
  cases hn : lk i o.nw with
  | some x => exact absurd hi (h2 i (ho.2 i x hn))
  | none =>
    cases hu : lk i o.u with
    | some x => exact absurd hi (h1 i (ho.1 i x hu))
    | none => rfl
omit [Glob] in
theorem upd_comm {s : FS} {da db : Option Nat} {a b : Ann} {oa ob : Out} (ha : okOut a oa) (hb : okOut b ob) (h : Apart da db a b) : (s.upd da oa).upd db ob = (s.upd db ob).upd da oa := by
  simp only [FS.upd, FS.mk.injEq, and_true]
  refine ⟨?_, ?_, ?_⟩
  · funext t
    by_cases h1 : da = some t
    · rw [if_neg (h.d t h1)]; simp [h1]
    · simp [h1]
  · funext i
    cases hna : lk i oa.nw with
    | some x =>
      have hin := ha.2 i x hna
      cases hnb : lk i ob.nw with
      | some y => exact absurd (hb.2 i y hnb) (h.na i hin).2
      | none =>
        cases hub : lk i ob.u with
        | some y => exact absurd hin (h.wb i (hb.1 i y hub)).2
        | none => rfl
    | none =>
      cases hnb : lk i ob.nw with
      | some y =>
        cases hua : lk i oa.u with
        | some x => exact absurd (hb.2 i y hnb) (h.wa i (ha.1 i x hua)).2.2
        | none => rfl
      | none =>
        cases hua : lk i oa.u with
        | some x =>
          cases hub : lk i ob.u with
          | some y => exact absurd (hb.1 i y hub) (h.wa i (ha.1 i x hua)).2.1
          | none => rfl
        | none =>
          cases hub : lk i ob.u with
          | some y => rfl
          | none => rfl
  · funext i
    exact propext ⟨fun h => ⟨⟨h.1.1, h.2⟩, h.1.2⟩, fun h => ⟨⟨h.1.1, h.2⟩, h.1.2⟩⟩
theorem CR_congr {l l' : List Nat} (h : ∀ s, CR P ops ann l s Q → CR P ops ann l' s Q) {j : Nat} {s : FS} (hj : CR P ops ann (j :: l) s Q) : CR P ops ann (j :: l') s Q := by
  simp only [CR] at hj ⊢
  obtain ⟨o, ho, hj⟩ := hj
  refine ⟨o, ho, ?_⟩
  split
  · rename_i hl
    rw [if_pos hl] at hj
    rcases hj with ⟨h1, h2, h3⟩ | ⟨h1, fn, args, lst, Ω, k1, k2, k3, k4⟩
    · exact .inl ⟨h1, h2, h _ h3⟩
    · exact .inr ⟨h1, fn, args, lst, Ω, k1, k2, k3, fun out hout => ⟨(k4 out hout).1, (k4 out hout).2.1, h _ (k4 out hout).2.2⟩⟩
  · rename_i hl
    rw [if_neg hl] at hj
    obtain ⟨out, k1, k2, k3⟩ := hj
    exact ⟨out, k1, k2, h _ k3⟩
theorem CR_swap {a b : Nat} {l : List Nat} {s : FS} (hfl : (ann a).loud = false) (hap : ∀ oa ob, ops[a]? = some oa → ops[b]? = some ob → Apart oa.dst ob.dst (ann a) (ann b)) (h : CR P ops ann (a :: b :: l) s Q) : CR P ops ann (b :: a :: l) s Q := by
  simp only [CR] at h ⊢
  obtain ⟨oa, ha, h⟩ := h
  rw [if_neg (by simp [hfl])] at h
  obtain ⟨outa, a1, a2, ob, hb, h⟩ := h
  have ap := hap oa ob ha hb
  refine ⟨ob, hb, ?_⟩
  rw [keepF_upd ap.ab, resF_upd a2 (fun i hi => (ap.wa i hi).1) (fun i hi => (ap.na i hi).1)] at h
  have back : ∀ outb, okOut (ann b) outb → CR P ops ann l ((s.upd oa.dst outa).upd ob.dst outb) Q → ∃ o, ops[a]? = some o ∧
      if (ann a).loud = true then loudA P ops o (ann a) (keepF (s.upd ob.dst outb).e (ann a).rd) (resF (s.upd ob.dst outb).f (ann a).ro) fun out => okOut (ann a) out ∧ CR P ops ann l ((s.upd ob.dst outb).upd o.dst out) Q
      else ∃ out, floatA P ops o ((ann a).nm.headD 0) (keepF (s.upd ob.dst outb).e (ann a).rd) (resF (s.upd ob.dst outb).f (ann a).ro) = some out ∧ okOut (ann a) out ∧ CR P ops ann l ((s.upd ob.dst outb).upd o.dst out) Q := by
    intro outb b1 b2
    refine ⟨oa, ha, ?_⟩
    rw [if_neg (by simp [hfl]), keepF_upd ap.ba, resF_upd b1 (fun i hi => (ap.wb i hi).1) ap.nb]
    exact ⟨outa, a1, a2, by rw [← upd_comm a2 b1 ap]; exact b2⟩
  split
  · rename_i hl
    rw [if_pos hl] at h
    rcases h with ⟨h1, h2, h3⟩ | ⟨h1, fn, args, lst, Ω, k1, k2, k3, k4⟩
    · exact .inl ⟨h1, h2, back _ h2 h3⟩
    · exact .inr ⟨h1, fn, args, lst, Ω, k1, k2, k3, fun out hout => ⟨(k4 out hout).1, (k4 out hout).2.1, back _ (k4 out hout).2.1 (k4 out hout).2.2⟩⟩
  · rename_i hl
    rw [if_neg hl] at h
    obtain ⟨outb, k1, k2, k3⟩ := h
    exact ⟨outb, k1, k2, back _ k2 k3⟩
theorem CR_front {b : Nat} {l2 : List Nat} : {l1 : List Nat} → (∀ a ∈ l1, (ann a).loud = false ∧ ∀ oa ob, ops[a]? = some oa → ops[b]? = some ob → Apart oa.dst ob.dst (ann a) (ann b)) → ∀ {s : FS}, CR P ops ann (l1 ++ b :: l2) s Q → CR P ops ann (b :: (l1 ++ l2)) s Q
  | [], _, s, h => h
  | a :: l1, hl, s, h => by
    have h1 : CR P ops ann (a :: b :: (l1 ++ l2)) s Q := CR_congr (fun s hs => CR_front (fun a ha => hl a (by simp [ha])) hs) h
    exact CR_swap (hl a (by simp)).1 (hl a (by simp)).2 h1
end
section
variable {P : Program} {r : Option Nat} {N : Nat} {ops : Array Oper}
def StepA (P : Program) (r : Option Nat) (N : Nat) (ops : Array Oper) (j : Nat) (st : St) (K : St → Prop) : Prop :=
  ∀ g w a, RA P g N st a → Inv P g st.σ w → ∀ (Kc : Act → World → Prop) (Q' : Exit → Act → World → Prop),
    (∀ g' st' a' w', g.le g' → RA P g' N st' a' → Inv P g' st'.σ w' → Frame w w' → K st' → Kc a' w') → wpOpIn (Fe r) 0 P ops Q' j Kc a w
theorem StepA_op {j : Nat} {o : Oper} {st : St} {K : St → Prop} (ho : ops[j]? = some o) (hg : guardA ops st.env o.guard = some true) (h : OpA P r N o st K (fun _ _ => False)) : StepA P r N ops j st K := by
  intro g w a ha hi Kc Q' hk
  have hw : Region.wanted o (yielded ops a.tmps) = true := wanted_of ha (by rw [guard_wanted]; exact hg)
  simp only [wpOpIn, ho, hw, if_true]
  exact h g w a ha hi Kc Q' hk (fun _ _ _ _ _ _ _ _ _ _ _ hf => hf.elim)
theorem StepA_skip {j : Nat} {o : Oper} {st : St} {K : St → Prop} (ho : ops[j]? = some o) (hd : dstOk N o.dst = true) (hg : guardA ops st.env o.guard = some false) (h : K { st with env := put st.env o.dst (.tuple []) }) : StepA P r N ops j st K := by
  intro g w a ha hi Kc Q' hk
  have hw : Region.wanted o (yielded ops a.tmps) = false := wanted_of ha (by rw [guard_wanted]; exact hg)
  simp only [wpOpIn, ho, hw, Bool.false_eq_true, if_false]
  exact ⟨fun _ _ => trivial, hk g _ _ w (.refl g) (ha.put hd (R_undef g)) hi (.refl w) h⟩
theorem call_st {o : Oper} {st : St} {K : St → Prop} {f : FuncId} {args : List PV} {l : List (Nat × AObj)} {k : Nat} {Ω : List Nat → COut → Prop} {ns : List Nat}
    (hdef : ∀ c, o.op ≠ .defer c) (hd : dstOk N o.dst = true) (hc : CallF P f args l k Ω) (hinf : st.σ.inf') (hl : ∀ i o, lk i l = some o → st.σ.f i = some o) (hns : ns.length = k) (hnd : ns.Nodup) (hnf : ∀ n ∈ ns, st.σ.fr n)
    (hrun : ∀ g w a, RA P g N st a → Inv P g st.σ w → ∃ vals, RL P g args vals ∧ (execOp a.eval o).run P w = .ok (.enter f vals) w)
    (hk : ∀ out, Ω ns out → out.pan = none ∧ K { st with env := put st.env o.dst (packA out.rs), σ := st.σ.after out.u out.nw }) : OpA P r N o st K (fun _ _ => False) := by
  intro g w a ha hi next Q' h1 h2
  obtain ⟨vals, hv, hr⟩ := hrun g w a ha hi
  refine ⟨fun _ _ => trivial, ?_⟩
  rw [Oper.semAt_eq _ _ _ hdef, hr, Oper.uponIn_enter]
  refine ⟨fun h => (by cases h), ?_⟩
  have hcall : CallsIn (Fe none) 0 P f vals w (callPost P g w st.σ ns (Ω ns)) := hc st.σ ns hinf hl hns hnd hnf g w vals hv hi
  have hcall' : CallsIn (Fe r) (0 - 1) P f vals w (callPost P g w st.σ ns (Ω ns)) := hcall
  refine hcall'.mono ?_
  rintro e w' ⟨g', out, k1, k2, k3, k4, k5, k6⟩
  obtain ⟨hp, hkk⟩ := hk out k5
  rw [hp] at k6
  cases e with
  | returned v =>
    have ha' := (ha.mono k1).put hd k6
    exact h1 g' { st with env := put st.env o.dst (packA out.rs), σ := st.σ.after out.u out.nw } _ w' k1 ⟨ha'.env, ha'.df⟩ k3 k2 hkk
  | panicked ch => exact k6.elim
  | outgrown => exact k6.elim
theorem CR_step {ann : Nat → Ann} {Q : FS → Prop} {j : Nat} {l : List Nat} {st : St} (hd : ∀ o ∈ ops.toList, dstOk N o.dst = true) (hinf : st.σ.inf') (hnd : (ann j).nm.Nodup) (hnf : ∀ n ∈ (ann j).nm, st.σ.fr n)
    (h : CR P ops ann (j :: l) st.fs Q) :
    StepA P r N ops j st (fun st' => (∃ o out, ops[j]? = some o ∧ okOut (ann j) out ∧ st' = { st with env := put st.env o.dst out.v, σ := st.σ.after out.u out.nw }) ∧ CR P ops ann l st'.fs Q) := by
  simp only [CR] at h
  obtain ⟨o, ho, h⟩ := h
  have hmem : o ∈ ops.toList := by
    obtain ⟨hlt, e⟩ := Array.getElem?_eq_some_iff.1 ho
    rw [← e]; exact Array.getElem_mem_toList hlt
  have hdo := hd o hmem
  have hge : ∀ t p, get (keepF st.fs.e (ann j).rd) t = some p → get st.env t = some p := fun t p h => get_keepF h
  have hfe : ∀ i ob, resF st.fs.f (ann j).ro i = some ob → st.σ.f i = some ob := by
    intro i ob h
    simp only [resF] at h
    split at h
    · exact h
    · cases h
  have skip : guardA ops (keepF st.fs.e (ann j).rd) o.guard = some false → okOut (ann j) ⟨.tuple [], [], []⟩ → CR P ops ann l (st.fs.upd o.dst ⟨.tuple [], [], []⟩) Q →
      StepA P r N ops j st (fun st' => (∃ o out, ops[j]? = some o ∧ okOut (ann j) out ∧ st' = { st with env := put st.env o.dst out.v, σ := st.σ.after out.u out.nw }) ∧ CR P ops ann l st'.fs Q) := by
    intro hg hok hcr
    refine StepA_skip ho hdo (guardA_mono hge hg) ?_
    have hs : st.σ.after [] [] = st.σ := by simp [Store.after, lk]
    refine ⟨⟨o, ⟨.tuple [], [], []⟩, ho, hok, ?_⟩, ?_⟩
    · rw [hs]
    · have := fs_out st o.dst ⟨.tuple [], [], []⟩
      simp only [hs] at this
      rw [this]; exact hcr
  split at h
  · rename_i hl
    rcases h with ⟨h1, h2, h3⟩ | ⟨h1, fn, args, lst, Ω, ⟨k0, k1⟩, k2, k3, k4⟩
    · exact skip h1 h2 h3
    · refine StepA_op ho (guardA_mono hge h1) ?_
      refine call_st (ns := (ann j).nm) k0 hdo k2 hinf (fun i ob hi => hfe i ob (k3 i ob hi)) rfl hnd hnf (fun g w a ha hi => k1 N st g w a hge ha) ?_
      intro out hout
      obtain ⟨a1, a2, a3⟩ := k4 out hout
      refine ⟨a1, ⟨o, ⟨packA out.rs, out.u, out.nw⟩, ho, a2, rfl⟩, ?_⟩
      rw [fs_out st o.dst ⟨packA out.rs, out.u, out.nw⟩]; exact a3
  · rename_i hl
    obtain ⟨out, k1, k2, k3⟩ := h
    have hfl := k1
    unfold floatA at k1
    split at k1
    · rename_i hg
      injection k1 with k1; subst k1
      exact skip hg k2 k3
    · rename_i hg
      have hg' := guardA_mono hge hg
      split at k1
      · split at k1
        · rename_i p hp
          injection k1 with k1; subst k1
          have hp' := stepV_mono (σ' := st.σ) hge hfe hp
          refine StepA_op ho hg' (OpA_val hp' hdo ?_)
          have hs : st.σ.after [] [] = st.σ := by simp [Store.after, lk]
          refine ⟨⟨o, ⟨p, [], []⟩, ho, k2, ?_⟩, ?_⟩
          · rw [hs]
          · have := fs_out st o.dst ⟨p, [], []⟩
            simp only [hs] at this
            rw [this]; exact k3
        · cases k1
      · have hp' := memA_mono (σ' := st.σ) hge hfe k1
        have hfin : (∃ o' out', ops[j]? = some o' ∧ okOut (ann j) out' ∧ ({ st with env := put st.env o.dst out.v, σ := st.σ.after out.u out.nw } : St) = { st with env := put st.env o'.dst out'.v, σ := st.σ.after out'.u out'.nw }) ∧ CR P ops ann l (St.fs { st with env := put st.env o.dst out.v, σ := st.σ.after out.u out.nw }) Q :=
          ⟨⟨o, out, ho, k2, rfl⟩, by rw [fs_out]; exact k3⟩
        cases hnm : (ann j).nm with
        | cons n ns =>
          rw [hnm] at hp'
          exact StepA_op ho hg' (OpA_mem n hp' (hnf n (by rw [hnm]; simp)) hdo hfin)
        | nil =>
          rw [hnm] at hp' hfl
          have hnw : out.nw = [] := by
            cases hw : out.nw with
            | nil => rfl
            | cons x y =>
              have := k2.2 x.1 x.2 (by rw [hw]; simp [lk])
              rw [hnm] at this; simp at this
          obtain ⟨m, hm⟩ := hinf
          have hp2 := memA_noname hp' hnw m
          exact StepA_op ho hg' (OpA_mem m hp2 (hm m (Nat.le_refl _)) hdo hfin)
      · cases k1
    · cases k1
where
  memA_noname {P : Program} {σ : Store} {env : Env} {id : Nat} {op : Op} {out : Out} (h : memA P σ env id op = some out) (hn : out.nw = []) (m : Nat) : memA P σ env m op = some out := by
    have box : ∀ {t : TypeId} {p : PV}, boxA id t p = some out → False := by
      intro t p h
      unfold boxA at h
      split at h
      · injection h with h; subst h; simp at hn
      · cases h
    unfold memA at h
    split at h
    · split at h
      · rename_i h1 h2
        split at h
        · rename_i h3; simp only [memA, h1, h2, h3]; exact h
        · cases h
      · cases h
    · split at h
      · exact (box h).elim
      · cases h
    · split at h
      · exact (box h).elim
      · cases h
    · injection h with h; subst h; simp at hn
    · split at h
      · rename_i h1 h2 h3; simp only [memA, h1, h2, h3]; exact h
      · cases h
    · split at h
      · unfold makeSliceA at h
        split at h
        · split at h
          · split at h
            · injection h with h; subst h; simp at hn
            · cases h
          · cases h
        · cases h
      · cases h
    · split at h
      · unfold buildSliceA at h
        split at h
        · split at h
          · split at h
            · split at h
              · split at h
                · injection h with h; subst h; simp at hn
                · cases h
              · cases h
            · cases h
          · cases h
        · cases h
      · cases h
    · split at h
      · obtain ⟨o, ho⟩ := appendA_nw h
        rw [ho] at hn; cases hn
      · cases h
    · split at h
      · rename_i h1 h2; simp only [memA, h1, h2]; exact h
      · cases h
    · cases h
end
structure Sched (ops : Array Oper) (ann : Nat → Ann) (ord : List Nat) (pre : Nat → List Nat) : Prop where
  all : ∀ j, j < ops.size → j ∈ ord
  bound : ∀ j ∈ ord, j < ops.size
  nodup : ord.Nodup
  anc : ∀ b o, ops[b]? = some o → ∀ a ∈ pre b, ∃ e ∈ o.after, Region.binds .any e = true ∧ (e.on = a ∨ a ∈ pre e.on)
  edges : ∀ b o, ops[b]? = some o → ∀ e ∈ o.after, Region.binds .any e = true → e.on < b
  pairs : ord.Pairwise fun a b => a ∈ pre b ∨ ((ann a).loud = false ∧ ∀ oa ob, ops[a]? = some oa → ops[b]? = some ob → Apart oa.dst ob.dst (ann a) (ann b))
  nms : ∀ a b, a ∈ ord → b ∈ ord → a ≠ b → ∀ n ∈ (ann a).nm, n ∉ (ann b).nm
  nmd : ∀ a ∈ ord, (ann a).nm.Nodup
omit [Glob] in
theorem keys_bound : (nw : List (Nat × AObj)) → ∃ m, ∀ i, m ≤ i → lk i nw = none
  | [] => ⟨0, fun _ _ => rfl⟩
  | (k, v) :: r => by
    obtain ⟨m, h⟩ := keys_bound r
    refine ⟨max m (k + 1), fun i hi => ?_⟩
    simp only [lk]
    rw [if_neg (by omega)]
    exact h i (by omega)
omit [Glob] in
theorem inf_after {σ : Store} (h : σ.inf') (u : List (Nat × Option AObj)) (nw : List (Nat × AObj)) : (σ.after u nw).inf' := by
  obtain ⟨m, h⟩ := h
  obtain ⟨m', h'⟩ := keys_bound nw
  exact ⟨max m m', fun i hi => ⟨h i (by omega), h' i (by omega)⟩⟩
section
variable {P : Program} {r : Option Nat} {N : Nat} {ops : Array Oper} {ann : Nat → Ann} {ord : List Nat} {pre : Nat → List Nat}
def rem (ord : List Nat) (listed : Array Bool) : List Nat := ord.filter fun j => !listed.getD j true
def Closed (ops : Array Oper) (listed : Array Bool) : Prop := ∀ b o, ops[b]? = some o → listed.getD b false = true → ∀ e ∈ o.after, Region.binds .any e = true → listed.getD e.on false = true
omit [Glob] in
theorem anc_listed (hs : Sched ops ann ord pre) {listed : Array Bool} (hc : Closed ops listed) : ∀ (b : Nat) (o : Oper), ops[b]? = some o → (∀ e ∈ o.after, Region.binds .any e = true → listed.getD e.on false = true) → ∀ a ∈ pre b, listed.getD a false = true := by
  intro b
  induction b using Nat.strongRecOn with
  | _ b ih =>
    intro o ho he a ha
    obtain ⟨e, hem, hb, h⟩ := hs.anc b o ho a ha
    rcases h with rfl | h
    · exact he e hem hb
    · have hlt := hs.edges b o ho e hem hb
      have hlb : b < ops.size := (Array.getElem?_eq_some_iff.1 ho).1
      have ho' : ops[e.on]? = some (ops[e.on]'(by omega)) := Array.getElem?_eq_getElem (by omega)
      exact ih e.on hlt _ ho' (hc e.on _ ho' (he e hem hb)) a h
theorem draw_core (hs : Sched ops ann ord pre) (hd : ∀ o ∈ ops.toList, dstOk N o.dst = true) {Q : ExitA → St → Prop} : ∀ (fuel : Nat) (listed : Array Bool) (st : St) (g0 : Gh) (w0 : World) (g : Gh) (w : World) (a : Act),
    listed.size = ops.size → Closed ops listed → (rem ord listed).length ≤ fuel → CR P ops ann (rem ord listed) st.fs (fun fs => ∀ st', st'.fs = fs → Q .normal st') →
    st.σ.inf' → (∀ j ∈ rem ord listed, ∀ n ∈ (ann j).nm, st.σ.fr n) → g0.le g → Frame w0 w → RA P g N st a → Inv P g st.σ w →
    wpAnyIn (Fe r) 0 P .any ops (post P N g0 w0 Q) fuel listed a w := by
  have noready : ∀ listed, rem ord listed = [] → Region.ready .any ops listed = [] := by
    intro listed h
    cases hr : Region.ready .any ops listed with
    | nil => rfl
    | cons j rest =>
      have hj : j ∈ Region.ready .any ops listed := by rw [hr]; simp
      obtain ⟨h1, o, ho, _⟩ := mem_ready.1 hj
      have : j ∈ rem ord listed := List.mem_filter.2 ⟨hs.all j (Array.getElem?_eq_some_iff.1 ho).1, by rw [h1]; rfl⟩
      rw [h] at this; simp at this
  have done : ∀ (listed : Array Bool) (st : St) (g0 : Gh) (w0 : World) (g : Gh) (w : World) (a : Act), rem ord listed = [] → CR P ops ann (rem ord listed) st.fs (fun fs => ∀ st', st'.fs = fs → Q .normal st') →
      g0.le g → Frame w0 w → RA P g N st a → Inv P g st.σ w → post P N g0 w0 Q .normal a w := by
    intro listed st g0 w0 g w a h hcr hg hf ha hi
    rw [h] at hcr
    exact post_later hg hf _ _ _ (post_here (ea := .normal) ha hi trivial (hcr st rfl))
  intro fuel
  induction fuel with
  | zero =>
    intro listed st g0 w0 g w a hsz hc hl hcr hinf hnf hg hf ha hi
    have hr := List.eq_nil_of_length_eq_zero (Nat.le_zero.1 hl)
    exact ⟨noready listed hr, done listed st g0 w0 g w a hr hcr hg hf ha hi⟩
  | succ fuel ih =>
    intro listed st g0 w0 g w a hsz hc hl hcr hinf hnf hg hf ha hi
    refine ⟨fun hnr => ?_, fun i hir => ?_⟩
    · refine done listed st g0 w0 g w a ?_ hcr hg hf ha hi
      cases hrem : rem ord listed with
      | nil => rfl
      | cons x rest =>
        exfalso
        have key : ∀ n j, j ≤ n → j ∈ rem ord listed → False := by
          intro n
          induction n with
          | zero =>
            intro j hj hm
            obtain ⟨hmo, hml⟩ := List.mem_filter.1 hm
            have hlt := hs.bound j hmo
            have : j ∈ Region.ready .any ops listed := mem_ready.2 ⟨by simpa using hml, ops[j], Array.getElem?_eq_getElem hlt, fun e he hb => by
              have := hs.edges j _ (Array.getElem?_eq_getElem hlt) e he hb
              omega⟩
            rw [hnr] at this; simp at this
          | succ n ihn =>
            intro j hj hm
            obtain ⟨hmo, hml⟩ := List.mem_filter.1 hm
            have hlt := hs.bound j hmo
            have : j ∈ Region.ready .any ops listed := mem_ready.2 ⟨by simpa using hml, ops[j], Array.getElem?_eq_getElem hlt, fun e he hb => by
              have h1 := hs.edges j _ (Array.getElem?_eq_getElem hlt) e he hb
              have h2 : e.on ∉ rem ord listed := fun hm' => ihn e.on (by omega) hm'
              have h3 : listed.getD e.on true = true := by
                cases hle : listed.getD e.on true with
                | true => rfl
                | false => exact absurd (List.mem_filter.2 ⟨hs.all e.on (by omega), by rw [hle]; rfl⟩) h2
              have h4 : e.on < listed.size := by omega
              simpa [Array.getD, h4] using h3⟩
            rw [hnr] at this; simp at this
        exact key x x (Nat.le_refl _) (by rw [hrem]; simp)
    · obtain ⟨h1, o, ho, hall⟩ := mem_ready.1 hir
      have hmem : i ∈ rem ord listed := List.mem_filter.2 ⟨hs.all i (Array.getElem?_eq_some_iff.1 ho).1, by rw [h1]; rfl⟩
      obtain ⟨l1, l2, hsplit⟩ := List.append_of_mem hmem
      have hpw : (rem ord listed).Pairwise fun a b => a ∈ pre b ∨ ((ann a).loud = false ∧ ∀ oa ob, ops[a]? = some oa → ops[b]? = some ob → Apart oa.dst ob.dst (ann a) (ann b)) := hs.pairs.filter _
      have hnd : (rem ord listed).Nodup := hs.nodup.filter _
      rw [hsplit] at hcr hpw hnd
      have hfront : ∀ a ∈ l1, (ann a).loud = false ∧ ∀ oa ob, ops[a]? = some oa → ops[i]? = some ob → Apart oa.dst ob.dst (ann a) (ann i) := by
        intro x hx
        have := (List.pairwise_append.1 hpw).2.2 x hx i (by simp)
        refine this.resolve_left fun hp => ?_
        have hx' : x ∈ rem ord listed := by rw [hsplit]; simp [hx]
        have h2 := anc_listed hs hc i o ho hall x hp
        have h3 := (List.mem_filter.1 hx').2
        have h4 : x < listed.size := by rw [hsz]; exact hs.bound x (List.mem_filter.1 hx').1
        simp [Array.getD, h4] at h2 h3
        rw [h2] at h3; cases h3
      have hcr' := CR_front hfront hcr
      have hio : i ∈ ord := (List.mem_filter.1 hmem).1
      have hstep := CR_step (r := r) (N := N) hd hinf (hs.nmd i hio) (hnf i hmem) hcr'
      refine hstep g w a ha hi _ _ ?_
      rintro g' st' a' w' k1 k2 k3 k4 ⟨⟨o', out, e1, e2, rfl⟩, k6⟩
      have hil : i < listed.size := by rw [hsz]; exact hs.bound i hio
      have hi1 : i ∉ l1 := fun hm => (List.nodup_append.1 hnd).2.2 i hm i (by simp) rfl
      have hi2 : i ∉ l2 := by
        have := (List.nodup_append.1 hnd).2.1
        exact (List.nodup_cons.1 this).1
      have hrem' : rem ord (listed.setIfInBounds i true) = l1 ++ l2 := by
        have e3 : rem ord (listed.setIfInBounds i true) = (rem ord listed).filter (fun j => j != i) := by
          unfold rem
          rw [List.filter_filter]
          refine List.filter_congr fun j hj => ?_
          by_cases hji : j = i
          · subst hji; simp [Array.getD, hil]
          · rw [getD_set_ne true (Ne.symm hji)]; simp [hji]
        rw [e3, hsplit, List.filter_append, List.filter_cons]
        have f1 : l1.filter (fun j => j != i) = l1 := List.filter_eq_self.2 fun j hj => by simp; rintro rfl; exact hi1 hj
        have f2 : l2.filter (fun j => j != i) = l2 := List.filter_eq_self.2 fun j hj => by simp; rintro rfl; exact hi2 hj
        rw [f1, f2]; simp
      refine ih (listed.setIfInBounds i true) _ g0 w0 g' w' a' (by simpa using hsz) ?_ ?_ (by rw [hrem']; exact k6) (inf_after hinf _ _) ?_ (hg.trans k1) (hf.trans k4) k2 k3
      · intro b ob hob hlb e he hb
        by_cases hbi : b = i
        · subst hbi
          rw [ho] at hob; injection hob with hob; subst hob
          exact getD_set_true (hall e he hb)
        · rw [getD_set_ne false (Ne.symm hbi)] at hlb
          exact getD_set_true (hc b ob hob hlb e he hb)
      · rw [hrem']
        rw [hsplit] at hl
        simp at hl ⊢; omega
      · intro j hj n hn
        rw [hrem'] at hj
        have hjr : j ∈ rem ord listed := by rw [hsplit]; simp at hj ⊢; rcases hj with h | h <;> simp [h]
        refine ⟨hnf j hjr n hn, ?_⟩
        cases hlk : lk n out.nw with
        | none => rfl
        | some x =>
          have hni := e2.2 n x hlk
          have hji : j ≠ i := by
            rintro rfl
            simp at hj
            rcases hj with h | h
            · exact hi1 h
            · exact hi2 h
          exact absurd hn (hs.nms i j hio (List.mem_filter.1 hjr).1 (Ne.symm hji) n hni)
theorem wpA_drawn (hm : P.follows .mixedOrders = true) (hs : Sched ops ann ord pre) (hd : ∀ o ∈ ops.toList, dstOk N o.dst = true) {Q : ExitA → St → Prop} {id : Nat} {st : St} (hinf : st.σ.inf') (hnf : ∀ j ∈ ord, ∀ n ∈ (ann j).nm, st.σ.fr n)
    (h : CR P ops ann ord st.fs (fun fs => ∀ st', st'.fs = fs → Q .normal st')) : wpA P r N (.region id ops true) st Q := by
  intro g w a ha hi
  refine wpIn_region_any hm ?_
  have hrem : rem ord (Array.replicate ops.size false) = ord := by
    refine List.filter_eq_self.2 fun j hj => ?_
    have := hs.bound j hj
    simp [Array.getD, this]
  have hi2 : Inv P g st.σ { w with drawn := w.drawn + 1 } := hi.heapEq rfl
  refine draw_core hs hd ops.size (Array.replicate ops.size false) st g w g _ a (by simp) ?_ ?_ (by rw [hrem]; exact h) hinf (by rw [hrem]; exact hnf) (.refl g) ⟨rfl, rfl, rfl, Nat.le_refl _⟩ ha hi2
  · intro b o ho hl
    have hlt := (Array.getElem?_eq_some_iff.1 ho).1
    simp [Array.getD, hlt] at hl
  · rw [hrem]
    have hsub : ord ⊆ List.range ops.size := fun j hj => List.mem_range.2 (hs.bound j hj)
    have := hs.nodup.length_le_of_subset hsub
    simpa using this
end
end Sg
namespace Sg
open Go
set_option linter.unusedSectionVars false
variable [Glob]
structure AnI where
  rd : List Nat
  ro : List Nat
  wo : List Nat
  nm : List Nat
  loud : Bool
  deriving Inhabited
def tid (tbl : List Nat) (k : Nat) : Nat := tbl.getD k 0
def AnI.ann (tbl : List Nat) (a : AnI) : Ann := ⟨a.rd, a.ro.map (tid tbl), a.wo.map (tid tbl), a.nm.map (tid tbl), a.loud⟩
def disB (a b : List Nat) : Bool := a.all fun x => !b.contains x
def apartB (da db : Option Nat) (a b : AnI) : Bool :=
  (match da with | some t => !b.rd.contains t && db != some t | none => true) &&
  (match db with | some t => !a.rd.contains t | none => true) &&
  disB a.wo b.ro && disB a.wo b.wo && disB a.wo b.nm && disB b.wo a.ro && disB b.wo a.nm && disB a.nm b.ro && disB a.nm b.nm && disB b.nm a.ro
def nodB : List Nat → Bool
  | [] => true
  | a :: r => !r.contains a && nodB r
def pairsB (ops : Array Oper) (an : Nat → AnI) (pre : Nat → List Nat) : List Nat → Bool
  | [] => true
  | a :: r => r.all (fun b => (pre b).contains a || (!(an a).loud && apartB ((ops[a]?).bind (·.dst)) ((ops[b]?).bind (·.dst)) (an a) (an b))) && pairsB ops an pre r
def nmsB (an : Nat → AnI) : List Nat → Bool
  | [] => true
  | a :: r => r.all (fun b => disB (an a).nm (an b).nm) && nodB (an a).nm && nmsB an r
def inB (m : Nat) (a : AnI) : Bool := a.ro.all (· < m) && a.wo.all (· < m) && a.nm.all (· < m)
def checkD (N m : Nat) (ops : Array Oper) (an : List AnI) (ord : List Nat) (pre : List (List Nat)) : Bool :=
  (List.range ops.size).all (ord.contains ·) && ord.all (· < ops.size) && nodB ord &&
  (List.range ops.size).all (fun b => match ops[b]? with
    | some o => (pre.getD b []).all (fun a => o.after.toList.any fun e => Region.binds .any e && (e.on == a || (pre.getD e.on []).contains a)) &&
        o.after.toList.all (fun e => !Region.binds .any e || e.on < b) && dstOk N o.dst
    | none => false) &&
  pairsB ops (fun j => an.getD j default) (fun j => pre.getD j []) ord &&
  nmsB (fun j => an.getD j default) ord && ord.all (fun j => inB m (an.getD j default))
omit [Glob] in
theorem disB_spec {a b : List Nat} (h : disB a b = true) : ∀ i ∈ a, i ∉ b := by
  intro i hi hb
  have := List.all_eq_true.1 h i hi
  simp [hb] at this
omit [Glob] in
theorem nodB_spec : {l : List Nat} → nodB l = true → l.Nodup
  | [], _ => List.nodup_nil
  | a :: r, h => by
    simp only [nodB, Bool.and_eq_true, Bool.not_eq_true', List.contains_eq_mem, decide_eq_false_iff_not] at h
    exact List.nodup_cons.2 ⟨h.1, nodB_spec h.2⟩
omit [Glob] in
theorem tid_inj {tbl : List Nat} (h : tbl.Nodup) {i j : Nat} (hi : i < tbl.length) (hj : j < tbl.length) (e : tid tbl i = tid tbl j) : i = j := by
  simp only [tid, List.getD, List.getElem?_eq_getElem hi, List.getElem?_eq_getElem hj, Option.getD_some] at e
  exact (List.getElem_inj h).1 e
omit [Glob] in
theorem dis_map {tbl : List Nat} (h : tbl.Nodup) {a b : List Nat} (ha : ∀ i ∈ a, i < tbl.length) (hb : ∀ i ∈ b, i < tbl.length) (hd : ∀ i ∈ a, i ∉ b) : ∀ i ∈ a.map (tid tbl), i ∉ b.map (tid tbl) := by
  intro i hi hj
  obtain ⟨x, hx, rfl⟩ := List.mem_map.1 hi
  obtain ⟨y, hy, e⟩ := List.mem_map.1 hj
  have := tid_inj h (hb y hy) (ha x hx) e
  subst this
  exact hd _ hx hy
omit [Glob] in
theorem apartB_spec {tbl : List Nat} (h : tbl.Nodup) {da db : Option Nat} {a b : AnI} (ia : inB tbl.length a = true) (ib : inB tbl.length b = true) (hc : apartB da db a b = true) : Apart da db (a.ann tbl) (b.ann tbl) := by
  simp only [inB, Bool.and_eq_true, List.all_eq_true, decide_eq_true_eq] at ia ib
  simp only [apartB, Bool.and_eq_true] at hc
  obtain ⟨⟨⟨⟨⟨⟨⟨⟨⟨c1, c2⟩, c3⟩, c4⟩, c5⟩, c6⟩, c7⟩, c8⟩, c9⟩, c10⟩ := hc
  refine ⟨?_, ?_, ?_, fun i hi => ⟨?_, ?_, ?_⟩, fun i hi => ⟨?_, ?_⟩, fun i hi => ⟨?_, ?_⟩, fun i hi => ?_⟩
  · intro t ht; subst ht
    simp only [Bool.and_eq_true, Bool.not_eq_true', List.contains_eq_mem, decide_eq_false_iff_not] at c1
    exact c1.1
  · intro t ht; subst ht
    simp only [Bool.not_eq_true', List.contains_eq_mem, decide_eq_false_iff_not] at c2
    exact c2
  · intro t ht; subst ht
    simp only [Bool.and_eq_true, bne_iff_ne] at c1
    exact c1.2
  · exact dis_map h ia.1.2 ib.1.1 (disB_spec c3) i hi
  · exact dis_map h ia.1.2 ib.1.2 (disB_spec c4) i hi
  · exact dis_map h ia.1.2 ib.2 (disB_spec c5) i hi
  · exact dis_map h ib.1.2 ia.1.1 (disB_spec c6) i hi
  · exact dis_map h ib.1.2 ia.2 (disB_spec c7) i hi
  · exact dis_map h ia.2 ib.1.1 (disB_spec c8) i hi
  · exact dis_map h ia.2 ib.2 (disB_spec c9) i hi
  · exact dis_map h ib.2 ia.1.1 (disB_spec c10) i hi
omit [Glob] in
theorem pairsB_spec {tbl : List Nat} (h : tbl.Nodup) {ops : Array Oper} {an : Nat → AnI} {pre : Nat → List Nat} : {l : List Nat} → (∀ j ∈ l, inB tbl.length (an j) = true) → pairsB ops an pre l = true →
    l.Pairwise fun a b => a ∈ pre b ∨ (((an a).ann tbl).loud = false ∧ ∀ oa ob, ops[a]? = some oa → ops[b]? = some ob → Apart oa.dst ob.dst ((an a).ann tbl) ((an b).ann tbl))
  | [], _, _ => List.Pairwise.nil
  | a :: r, hi, hc => by
    simp only [pairsB, Bool.and_eq_true, List.all_eq_true, Bool.or_eq_true, List.contains_eq_mem, decide_eq_true_eq, Bool.not_eq_true'] at hc
    refine List.pairwise_cons.2 ⟨fun b hb => ?_, pairsB_spec h (fun j hj => hi j (by simp [hj])) hc.2⟩
    rcases hc.1 b hb with h1 | ⟨h1, h2⟩
    · exact .inl h1
    · refine .inr ⟨h1, fun oa ob ha hb' => ?_⟩
      rw [ha, hb'] at h2
      exact apartB_spec h (hi a (by simp)) (hi b (by simp [hb])) h2
omit [Glob] in
theorem nmsB_spec {tbl : List Nat} (h : tbl.Nodup) {an : Nat → AnI} : {l : List Nat} → (∀ j ∈ l, inB tbl.length (an j) = true) → nmsB an l = true →
    (∀ a b, a ∈ l → b ∈ l → a ≠ b → ∀ n ∈ ((an a).ann tbl).nm, n ∉ ((an b).ann tbl).nm) ∧ ∀ a ∈ l, ((an a).ann tbl).nm.Nodup
  | [], _, _ => ⟨fun a b ha => by simp at ha, fun a ha => by simp at ha⟩
  | x :: r, hi, hc => by
    simp only [nmsB, Bool.and_eq_true, List.all_eq_true] at hc
    obtain ⟨ih1, ih2⟩ := nmsB_spec h (fun j hj => hi j (by simp [hj])) hc.2
    have lim : ∀ j ∈ x :: r, ∀ i ∈ (an j).nm, i < tbl.length := by
      intro j hj i hi'
      have := hi j hj
      simp only [inB, Bool.and_eq_true, List.all_eq_true, decide_eq_true_eq] at this
      exact this.2 i hi'
    refine ⟨fun a b ha hb hne => ?_, fun a ha => ?_⟩
    · simp only [List.mem_cons] at ha hb
      rcases ha with rfl | ha <;> rcases hb with rfl | hb
      · exact absurd rfl hne
      · exact dis_map h (lim a (by simp)) (lim b (by simp [hb])) (disB_spec (hc.1.1 b hb))
      · intro n hn hm
        exact dis_map h (lim b (by simp)) (lim a (by simp [ha])) (disB_spec (hc.1.1 a ha)) n hm hn
      · exact ih1 a b ha hb hne
    · simp only [List.mem_cons] at ha
      rcases ha with rfl | ha
      · have hn := nodB_spec hc.1.2
        exact List.pairwise_map.2 (List.Pairwise.imp_of_mem (fun {i j} hi' hj hne e => hne (tid_inj h (lim a (by simp) i hi') (lim a (by simp) j hj) e)) hn)
      · exact ih2 a ha
omit [Glob] in
theorem checkD_spec {N : Nat} {tbl : List Nat} (h : tbl.Nodup) {ops : Array Oper} {an : List AnI} {ord : List Nat} {pre : List (List Nat)} (hc : checkD N tbl.length ops an ord pre = true) :
    Sched ops (fun j => (an.getD j default).ann tbl) ord (fun j => pre.getD j []) ∧ ∀ o ∈ ops.toList, dstOk N o.dst = true := by
  simp only [checkD, Bool.and_eq_true] at hc
  obtain ⟨⟨⟨⟨⟨⟨c1, c2⟩, c3⟩, c4⟩, c5⟩, c6⟩, c7⟩ := hc
  have hin : ∀ j ∈ ord, inB tbl.length (an.getD j default) = true := fun j hj => List.all_eq_true.1 c7 j hj
  have hb : ∀ b o, ops[b]? = some o → ((pre.getD b []).all (fun a => o.after.toList.any fun e => Region.binds .any e && (e.on == a || (pre.getD e.on []).contains a)) = true ∧
        o.after.toList.all (fun e => !Region.binds .any e || e.on < b) = true) ∧ dstOk N o.dst = true := by
    intro b o ho
    have hlt := (Array.getElem?_eq_some_iff.1 ho).1
    have := List.all_eq_true.1 c4 b (List.mem_range.2 hlt)
    rw [ho] at this
    simpa [Bool.and_eq_true] using this
  obtain ⟨n1, n2⟩ := nmsB_spec h hin c6
  refine ⟨⟨?_, ?_, nodB_spec c3, ?_, ?_, pairsB_spec h hin c5, n1, n2⟩, ?_⟩
  · intro j hj
    have := List.all_eq_true.1 c1 j (List.mem_range.2 hj)
    simpa using this
  · intro j hj
    have := List.all_eq_true.1 c2 j hj
    simpa using this
  · intro b o ho a ha
    have := List.all_eq_true.1 (hb b o ho).1.1 a ha
    obtain ⟨e, he, h2⟩ := List.any_eq_true.1 this
    simp only [Bool.and_eq_true, Bool.or_eq_true, beq_iff_eq, List.contains_eq_mem, decide_eq_true_eq] at h2
    exact ⟨e, Array.mem_toList_iff.1 he, h2.1, h2.2⟩
  · intro b o ho e he hbn
    have := List.all_eq_true.1 (hb b o ho).1.2 e (Array.mem_toList_iff.2 he)
    simpa [hbn] using this
  · intro o ho
    obtain ⟨b, hb', e⟩ := List.getElem_of_mem ho
    have : ops[b]? = some o := by
      rw [← e]; simp at hb' ⊢
    exact (hb b o this).2
structure WF (fs : FS) (s : MS) : Prop where
  e : ∀ t p, get s.env t = some p → fs.e t = some p
  f : ∀ i o, s.f i = some o → fs.f i = some o
  fr : ∀ i, s.M ≤ i → fs.fr i
  df : s.df = fs.df
section
variable (P : Program) (ops : Array Oper)
def bindD (o : Option Oper) (K : Oper → Prop) : Prop := ∃ x, o = some x ∧ K x
def rdOk (env : Env) : List Nat → Prop
  | [] => True
  | t :: r => (get env t).isSome = true ∧ rdOk env r
def roOk (s : MS) : List Nat → Prop
  | [] => True
  | i :: r => (s.f i).isSome = true ∧ roOk s r
def bindI (o : Option AnI) (K : AnI → Prop) : Prop := ∃ x, o = some x ∧ K x
def runD (tbl : List Nat) (an : Array AnI) : List Nat → MS → (MS → Prop) → Prop
  | [], s, K => K s
  | j :: l, s, K => bindD ops[j]? fun o => bindI an[j]? fun ai => (rdOk s.env ai.rd ∧ roOk s (ai.ann tbl).ro) ∧
      if ai.loud = true then loudA P ops o (ai.ann tbl) (keepE s.env ai.rd) (resF s.f (ai.ann tbl).ro) fun out => okOut (ai.ann tbl) out ∧ okDel s.B s.f0 out.u ∧ runD tbl an l (s.out o.dst out s.M) K
      else bindO (floatA P ops o ((ai.ann tbl).nm.headD 0) (keepE s.env ai.rd) (resF s.f (ai.ann tbl).ro)) fun out => okOut (ai.ann tbl) out ∧ okDel s.B s.f0 out.u ∧ runD tbl an l (s.out o.dst out s.M) K
end
section
variable {P : Program} {r : Option Nat} {N : Nat} {ops : Array Oper}
omit [Glob] in
theorem keepE_eq {e : Nat → Option PV} {env : Env} (h : ∀ t p, get env t = some p → e t = some p) : {rd : List Nat} → rdOk env rd → keepF e rd = keepE env rd
  | [], _ => rfl
  | t :: r, hc => by
    obtain ⟨p, hp⟩ := Option.isSome_iff_exists.1 hc.1
    have ih := keepE_eq h hc.2
    simp only [keepF, keepE, hp, h t p hp, ih]
omit [Glob] in
theorem roOk_spec {s : MS} : {ro : List Nat} → roOk s ro → ∀ i ∈ ro, (s.f i).isSome = true
  | [], _, i, h => by simp at h
  | j :: r, ⟨h1, h2⟩, i, h => by
    simp only [List.mem_cons] at h
    rcases h with rfl | h
    · exact h1
    · exact roOk_spec h2 i h
omit [Glob] in
theorem resF_eq {s : MS} {f : Nat → Option AObj} (h : ∀ i o, s.f i = some o → f i = some o) {ro : List Nat} (hc : roOk s ro) : resF f ro = resF s.f ro := by
  funext i
  simp only [resF]
  split
  · rename_i hi
    obtain ⟨o, ho⟩ := Option.isSome_iff_exists.1 (roOk_spec hc i hi)
    rw [ho, h i o ho]
  · rfl
omit [Glob] in
theorem WF_upd {fs : FS} {s : MS} (h : WF fs s) {d : Option Nat} {out : Out} (hd : okDel s.B s.f0 out.u) (hn : ∀ i, s.M ≤ i → lk i out.nw = none) : WF (fs.upd d out) (s.out d out s.M) := by
  refine ⟨fun t p e => ?_, fun i ob e => ?_, fun i hi => ⟨h.fr i hi, hn i hi⟩, h.df⟩
  · simp only [MS.out, get_put] at e
    simp only [FS.upd]
    split at e
    · rename_i hd'; rw [if_pos hd']; exact e
    · rename_i hd'; rw [if_neg hd']; exact h.e t p e
  · simp only [MS.f, MS.out, lk_append] at e
    simp only [FS.upd]
    cases hl : lk i out.nw with
    | some x => rw [hl] at e; exact e
    | none =>
      rw [hl] at e
      have := lk_updl (s := s) (i := i) hd
      have e' : (match lk i out.u with | some o => o | none => s.f i) = some ob := this.symm.trans e
      cases hu : lk i out.u with
      | some x => rw [hu] at e'; exact e'
      | none => rw [hu] at e'; exact h.f i ob e'
def annOf (tbl : List Nat) (an : Array AnI) (j : Nat) : Ann := (an.getD j default).ann tbl
omit [Glob] in
theorem annOf_some {tbl : List Nat} {an : Array AnI} {j : Nat} {a : AnI} (h : an[j]? = some a) : annOf tbl an j = a.ann tbl := by
  simp [annOf, Array.getD_eq_getD_getElem?, h]
theorem runD_CR {tbl : List Nat} {an : Array AnI} {K : MS → Prop} : ∀ (l : List Nat) (s : MS) (fs : FS), (∀ j ∈ l, ∀ n ∈ (annOf tbl an j).nm, n < s.M) → runD P ops tbl an l s K → WF fs s → CR P ops (annOf tbl an) l fs (fun fs' => ∃ s', WF fs' s' ∧ K s')
  | [], s, fs, _, h, hw => ⟨s, hw, h⟩
  | j :: l, s, fs, hnm, h, hw => by
    obtain ⟨o, ho, ai, hai, ⟨h1, h2⟩, h⟩ := h
    refine ⟨o, ho, ?_⟩
    have hann := annOf_some (tbl := tbl) hai
    rw [hann]
    rw [keepE_eq (rd := (ai.ann tbl).rd) hw.e h1, resF_eq hw.f h2]
    have next : ∀ out, okOut (ai.ann tbl) out → okDel s.B s.f0 out.u → runD P ops tbl an l (s.out o.dst out s.M) K → CR P ops (annOf tbl an) l (fs.upd o.dst out) (fun fs' => ∃ s', WF fs' s' ∧ K s') := by
      intro out a1 a2 a3
      refine runD_CR l (s.out o.dst out s.M) _ (fun j' hj' => hnm j' (by simp [hj'])) a3 (WF_upd hw a2 fun i hi => ?_)
      cases hl : lk i out.nw with
      | none => rfl
      | some x =>
        have := hnm j (by simp) i (by rw [hann]; exact a1.2 i x hl)
        omega
    by_cases hl : ai.loud = true
    · rw [if_pos hl] at h
      rw [if_pos (show (ai.ann tbl).loud = true from hl)]
      rcases h with ⟨k1, k2, k3, k4⟩ | ⟨k1, fn, args, lst, Ω, m1, m2, m3, m4⟩
      · exact .inl ⟨k1, k2, next _ k2 k3 k4⟩
      · exact .inr ⟨k1, fn, args, lst, Ω, m1, m2, m3, fun out hout => ⟨(m4 out hout).1, (m4 out hout).2.1, next _ (m4 out hout).2.1 (m4 out hout).2.2.1 (m4 out hout).2.2.2⟩⟩
    · rw [if_neg hl] at h
      rw [if_neg (show ¬ (ai.ann tbl).loud = true from hl)]
      obtain ⟨out, k1, k2, k3, k4⟩ := h
      exact ⟨out, k1, k2, next out k2 k3 k4⟩
omit [Glob] in
theorem tblOk_spec {M k p : Nat} {tbl : List Nat} {an : Array AnI} (h1 : ∀ n ∈ tbl.drop p, M ≤ n ∧ n < M + k) (h2 : an.toList.all (fun a => a.nm.all (fun x => decide (p ≤ x) && decide (x < tbl.length))) = true) (j : Nat) : ∀ n ∈ (annOf tbl an j).nm, M ≤ n ∧ n < M + k := by
  intro n hn
  simp only [annOf, AnI.ann] at hn
  obtain ⟨x, hx, rfl⟩ := List.mem_map.1 hn
  have hj : an.getD j default ∈ an.toList := by
    by_cases hlt : j < an.size
    · simp only [Array.getD, hlt, dite_true]
      exact Array.getElem_mem_toList hlt
    · simp only [Array.getD, hlt, dite_false] at hx
      simp [default, instInhabitedAnI.default] at hx
  have := List.all_eq_true.1 (List.all_eq_true.1 h2 _ hj) x hx
  simp only [Bool.and_eq_true, decide_eq_true_eq] at this
  refine h1 _ ?_
  simp only [tid, List.getD, List.getElem?_eq_getElem this.2, Option.getD_some]
  rw [List.mem_iff_getElem]
  exact ⟨x - p, by simp; omega, by simp; congr 1; omega⟩
theorem wpM_drawn (hm : P.follows .mixedOrders = true) (k p : Nat) (tbl : List Nat) (an : Array AnI) (ord : List Nat) (pre : List (List Nat)) {id : Nat} {s : MS} {Q : ExitA → MS → Prop} (m : Nat) (hlen : tbl.length = m) (htbl : tbl.Nodup)
    (hc : (checkD N m ops an.toList ord pre && an.toList.all (fun a => a.nm.all (fun x => decide (p ≤ x) && decide (x < m)))) = true) (hnm : ∀ n ∈ tbl.drop p, s.M ≤ n ∧ n < s.M + k)
    (h' : ∀ (O : Array Oper) (A : Array AnI) (K : MS → Prop), O = ops → A = an → (∀ s, Q .normal s → K s) → runD P O tbl A ord { s with M := s.M + k } K) : wpM P r N (.region id ops true) s Q := by
  have h := h' ops an _ rfl rfl (fun s h => h)
  subst hlen
  simp only [Bool.and_eq_true] at hc
  obtain ⟨hs, hd⟩ := checkD_spec htbl hc.1
  have hann : (fun j => (an.toList.getD j default).ann tbl) = annOf tbl an := by
    funext j
    simp [annOf, List.getD, Array.getD_eq_getD_getElem?]
  rw [hann] at hs
  have hnm' := tblOk_spec hnm hc.2
  refine wpA_drawn hm hs hd ⟨s.M, fun i hi => hi⟩ (fun j hj n hn => (hnm' j n hn).1) ?_
  have hw : WF s.st.fs { s with M := s.M + k } := ⟨fun t p e => e, fun i o e => e, fun i hi => Nat.le_trans (Nat.le_add_right _ _) hi, rfl⟩
  have := runD_CR ord _ _ (fun j hj n hn => (hnm' j n hn).2) h hw
  refine CR_mono this ?_
  rintro fs ⟨s', w', hk⟩ st' rfl
  exact ⟨s', ⟨fun t p e => .inr (w'.e t p e), w'.f, w'.fr, w'.df⟩, hk⟩
where
  CR_mono {ann : Nat → Ann} {Q Q' : FS → Prop} : {l : List Nat} → {fs : FS} → CR P ops ann l fs Q → (∀ fs, Q fs → Q' fs) → CR P ops ann l fs Q'
    | [], fs, h, hq => hq fs h
    | j :: l, fs, h, hq => by
      obtain ⟨o, ho, h⟩ := h
      refine ⟨o, ho, ?_⟩
      split
      · rename_i hl
        rw [if_pos hl] at h
        rcases h with ⟨k1, k2, k3⟩ | ⟨k1, fn, args, lst, Ω, m1, m2, m3, m4⟩
        · exact .inl ⟨k1, k2, CR_mono k3 hq⟩
        · exact .inr ⟨k1, fn, args, lst, Ω, m1, m2, m3, fun out hout => ⟨(m4 out hout).1, (m4 out hout).2.1, CR_mono (m4 out hout).2.2 hq⟩⟩
      · rename_i hl
        rw [if_neg hl] at h
        obtain ⟨out, k1, k2, k3⟩ := h
        exact ⟨out, k1, k2, CR_mono k3 hq⟩
end
end Sg
namespace Sg
open Go
set_option linter.unusedSectionVars false
variable [Glob]
def kV (K : Out → Prop) (p : PV) : Prop := K ⟨p, [], []⟩
omit [Glob] in
@[go_sem] theorem kV_app (K : Out → Prop) (p : PV) : kV K p = K ⟨p, [], []⟩ := rfl
def keysSub {α : Type} (l : List Nat) : List (Nat × α) → Prop
  | [] => True
  | (k, _) :: r => k ∈ l ∧ keysSub l r
omit [Glob] in
theorem keysSub_iff {α : Type} {l : List Nat} : {u : List (Nat × α)} → (∀ i x, lk i u = some x → i ∈ l) ↔ keysSub l u
  | [] => by simp [keysSub, lk]
  | (k, v) :: r => by
    have ih := keysSub_iff (l := l) (u := r)
    constructor
    · intro h
      refine ⟨h k v (by simp [lk]), ih.1 fun i x hx => ?_⟩
      by_cases e : k = i
      · subst e; exact h k v (by simp [lk])
      · exact h i x (by simp [lk, e, hx])
    · rintro ⟨h1, h2⟩ i x hx
      simp only [lk] at hx
      split at hx
      · rename_i e; subst e; exact h1
      · exact ih.2 h2 i x hx
omit [Glob] in
@[go_sem] theorem okOut_eq (an : Ann) (o : Out) : okOut an o = (keysSub an.wo o.u ∧ keysSub an.nm o.nw) := propext ⟨fun h => ⟨keysSub_iff.1 h.1, keysSub_iff.1 h.2⟩, fun h => ⟨keysSub_iff.2 h.1, keysSub_iff.2 h.2⟩⟩
attribute [go_sem] keysSub AnI.ann tid resF List.getD_cons_zero List.getD_cons_succ List.map_cons List.map_nil List.mem_cons List.not_mem_nil or_false false_or true_or or_true List.headD_cons List.headD_nil
omit [Glob] in
@[congr] theorem bindD_congr {o o' : Option Oper} {K : Oper → Prop} (h : True → o = o') : bindD o K = bindD o' K := by rw [h trivial]
omit [Glob] in
@[go_sem] theorem bindD_some (o : Oper) (K : Oper → Prop) : bindD (some o) K = K o := by simp [bindD]
def bindB (b : Bool) (A B : Prop) : Prop := if b = true then A else B
omit [Glob] in
@[congr] theorem bindB_congr {b b' : Bool} {A B : Prop} (h : True → b = b') : bindB b A B = bindB b' A B := by rw [h trivial]
omit [Glob] in
@[go_sem] theorem bindB_true (A B : Prop) : bindB true A B = A := rfl
omit [Glob] in
@[go_sem] theorem bindB_false (A B : Prop) : bindB false A B = B := rfl
omit [Glob] in
theorem forall_nil (p : Nat → Prop) : (∀ i ∈ ([] : List Nat), p i) = True := by simp
omit [Glob] in
theorem forall_cons (a : Nat) (l : List Nat) (p : Nat → Prop) : (∀ i ∈ a :: l, p i) = (p a ∧ ∀ i ∈ l, p i) := by simp
attribute [go_sem ↓] forall_nil forall_cons
attribute [go_sem] rdOk roOk
omit [Glob] in
@[congr] theorem bindI_congr {o o' : Option AnI} {K : AnI → Prop} (h : True → o = o') : bindI o K = bindI o' K := by rw [h trivial]
omit [Glob] in
@[go_sem] theorem bindI_some (o : AnI) (K : AnI → Prop) : bindI (some o) K = K o := by simp [bindI]
section
variable (P : Program) (ops : Array Oper) (tbl : List Nat) (an : Array AnI) (K : MS → Prop)
def kF (l : List Nat) (s : MS) (a : Ann) (d : Option Nat) (out : Out) : Prop := okOut a out ∧ okDel s.B s.f0 out.u ∧ runD P ops tbl an l (s.out d out s.M) K
def kI (l : List Nat) (s : MS) (o : Oper) (ai : AnI) : Prop :=
  (rdOk s.env ai.rd ∧ roOk s (ai.ann tbl).ro) ∧
      bindB ai.loud (loudA P ops o (ai.ann tbl) (keepE s.env ai.rd) (resF s.f (ai.ann tbl).ro) (kF P ops tbl an K l s (ai.ann tbl) o.dst))
        (bindO (floatA P ops o ((ai.ann tbl).nm.headD 0) (keepE s.env ai.rd) (resF s.f (ai.ann tbl).ro)) (kF P ops tbl an K l s (ai.ann tbl) o.dst))
def kD (l : List Nat) (s : MS) (j : Nat) (o : Oper) : Prop := bindI an[j]? (kI P ops tbl an K l s o)
variable (l : List Nat) (s : MS) (j : Nat)
@[go_sem] theorem runD_nil : runD P ops tbl an [] s K = K s := rfl
@[go_sem] theorem runD_cons : runD P ops tbl an (j :: l) s K = bindD ops[j]? (kD P ops tbl an K l s j) := rfl
@[go_sem] theorem kD_app (o : Oper) : kD P ops tbl an K l s j o = bindI an[j]? (kI P ops tbl an K l s o) := rfl
@[go_sem] theorem kI_app (o : Oper) (ai : AnI) : kI P ops tbl an K l s o ai = ((rdOk s.env ai.rd ∧ roOk s (ai.ann tbl).ro) ∧
      bindB ai.loud (loudA P ops o (ai.ann tbl) (keepE s.env ai.rd) (resF s.f (ai.ann tbl).ro) (kF P ops tbl an K l s (ai.ann tbl) o.dst))
        (bindO (floatA P ops o ((ai.ann tbl).nm.headD 0) (keepE s.env ai.rd) (resF s.f (ai.ann tbl).ro)) (kF P ops tbl an K l s (ai.ann tbl) o.dst))) := rfl
@[go_sem] theorem kF_app (a : Ann) (d : Option Nat) (out : Out) : kF P ops tbl an K l s a d out = (okOut a out ∧ okDel s.B s.f0 out.u ∧ runD P ops tbl an l (s.out d out s.M) K) := rfl
end
section
variable (P : Program) (ops : Array Oper) (o : Oper) (nm : Nat) (e : Env) (f : Nat → Option AObj) (K : Out → Prop)
def loG (g : Option Bool) (A : Prop) (K : Out → Prop) : Prop := (g = some true ∧ A) ∨ (g = some false ∧ K ⟨.tuple [], [], []⟩)
omit [Glob] in
@[congr] theorem loG_congr {g g' : Option Bool} {A : Prop} {K : Out → Prop} (h : True → g = g') : loG g A K = loG g' A K := by rw [h trivial]
omit [Glob] in
@[go_sem] theorem loG_true (A : Prop) (K : Out → Prop) : loG (some true) A K = A := by simp [loG]
omit [Glob] in
@[go_sem] theorem loG_false (A : Prop) (K : Out → Prop) : loG (some false) A K = K ⟨.tuple [], [], []⟩ := by simp [loG]
@[go_sem] theorem bindO_floatA : bindO (floatA P ops o nm e f) K = bindK (kind o.op) (bindGv (guardA ops e o.guard) (stepV P ⟨f, fun _ => False⟩ e o.op) (kV K)) (loG (guardA ops e o.guard) (bindO (memA P ⟨f, fun _ => False⟩ e nm o.op) K) K) (loG (guardA ops e o.guard) False K) := by
  unfold floatA
  cases guardA ops e o.guard with
  | none => cases kind o.op <;> simp [bindO, bindGv, loG, bindK]
  | some b =>
    cases b with
    | false => cases kind o.op <;> simp [bindO, bindGv, loG, bindK, kV]
    | true =>
      cases kind o.op with
      | val => cases h : stepV P ⟨f, fun _ => False⟩ e o.op <;> simp [bindO, bindP, kV, h, bindGv, bindK]
      | mem => simp [loG, bindK]
      | call => simp [bindO, loG, bindK]
def loudC (an : Ann) : Prop := ∃ fn args l Ω, CallOk P o e fn args ∧ CallF P fn args l an.nm.length Ω ∧ (∀ i ob, lk i l = some ob → f i = some ob) ∧
    ∀ out, Ω an.nm out → out.pan = none ∧ K ⟨packA out.rs, out.u, out.nw⟩
@[go_sem] theorem loudA_eq (an : Ann) : loudA P ops o an e f K = loG (guardA ops e o.guard) (loudC P o e f K an) K := by
  unfold loudA loG loudC
  exact propext ⟨fun h => h.symm, fun h => h.symm⟩
end
section
variable {P : Program} {o : Oper} {e : Env} {f : Nat → Option AObj} {K : Out → Prop} {an : Ann}
theorem evs_sub {e e' : Env} (h : ∀ t p, get e t = some p → get e' t = some p) : ∀ (as : List Operand) (ps : List PV), evs e as = some ps → evs e' as = some ps
  | [], ps, hh => hh
  | a :: as, ps, hh => by
    simp only [evs] at hh ⊢
    cases h1 : ev e a with
    | none => rw [h1] at hh; cases hh
    | some p =>
      rw [h1] at hh
      have h1' : ev e' a = some p := by
        cases a with
        | tmp t => exact h t p h1
        | _ => exact h1
      cases h2 : evs e as with
      | none => rw [h2] at hh; cases hh
      | some q =>
        rw [h2] at hh
        rw [h1', evs_sub h as q h2]; exact hh
theorem CallOk_value {x : Operand} {as : Array Operand} {ts : Array TypeId} {fn : FuncId} {first cap ps : List PV} (ho : o.op = .call { callee := .value x, args := as, argTypes := ts }) (hx : ev e x = some (.fn (.func fn) first cap)) (ha : evs e as.toList = some ps)
    (henter : ∀ args w, (callFunc fn args).run P w = .ok (.enter fn args) w) : CallOk P o e fn (first ++ ps ++ cap) := by
  refine ⟨(by intro c h; rw [ho] at h; cases h), ?_⟩
  intro N st g w a hsub hra
  have hx' : ev st.env x = some (.fn (.func fn) first cap) := by
    cases x with
    | tmp t => exact hsub t _ hx
    | _ => exact hx
  have h1 := R_ev hra hx'
  have h2 := evs_RL hra (evs_sub hsub _ _ ha)
  generalize hv : a.eval x = v at h1
  cases h1 with
  | fn _ _ _ va vc e1 e2 e3 e4 =>
    refine ⟨va ++ as.map a.eval ++ vc, (RL.append ⟨e1, e3⟩ h2).append ⟨e2, e4⟩, ?_⟩
    unfold execOp
    simp only [ho]
    exact resolve_value hv henter w
theorem CallOk_invoke {x : Operand} {m : String} {as : Array Operand} {ts : Array TypeId} {fn : FuncId} {rt : TypeId} {recv : PV} {ps : List PV} (ho : o.op = .call { callee := .invoke x m, args := as, argTypes := ts }) (hx : ev e x = some (.iface rt recv)) (ha : evs e as.toList = some ps)
    (hm : ∀ (v : Value) w, (method (P.types.size + Made.depth) rt v m).run P w = .ok (fn, v) w) (henter : ∀ args w, (callFunc fn args).run P w = .ok (.enter fn args) w) : CallOk P o e fn (recv :: ps) := by
  refine ⟨(by intro c h; rw [ho] at h; cases h), ?_⟩
  intro N st g w a hsub hra
  have hx' : ev st.env x = some (.iface rt recv) := by
    cases x with
    | tmp t => exact hsub t _ hx
    | _ => exact hx
  have h1 := R_ev hra hx'
  have h2 := evs_RL hra (evs_sub hsub _ _ ha)
  generalize hv : a.eval x = v at h1
  cases h1 with
  | iface _ _ u h1 =>
    refine ⟨#[u] ++ as.map a.eval, RL.append (l := [recv]) (a := #[u]) ⟨rfl, fun j hj => ?_⟩ h2, ?_⟩
    · match j, hj with
      | 0, _ => exact h1
    · unfold execOp
      simp only [ho]
      exact resolve_invoke hv hm henter w
theorem loud_fn {x : Operand} {as : Array Operand} {ts : Array TypeId} {fn : FuncId} {first cap ps : List PV} {l : List (Nat × AObj)} {k : Nat} {Ω : List Nat → COut → Prop} (hc : CallF P fn (first ++ ps ++ cap) l k Ω) (henter : ∀ args w, (callFunc fn args).run P w = .ok (.enter fn args) w)
    (ho : o.op = .call { callee := .value x, args := as, argTypes := ts }) (hx : ev e x = some (.fn (.func fn) first cap)) (ha : evs e as.toList = some ps) (hl : ∀ i ob, lk i l = some ob → f i = some ob) (hk : an.nm.length = k)
    (h : ∀ out, Ω an.nm out → out.pan = none ∧ K ⟨packA out.rs, out.u, out.nw⟩) : loudC P o e f K an :=
  ⟨fn, _, l, Ω, CallOk_value ho hx ha henter, by rw [hk]; exact hc, hl, h⟩
theorem loud_inv {x : Operand} {m : String} {as : Array Operand} {ts : Array TypeId} {fn : FuncId} {rt : TypeId} {recv : PV} {ps : List PV} {l : List (Nat × AObj)} {k : Nat} {Ω : List Nat → COut → Prop} (hc : CallF P fn (recv :: ps) l k Ω) (henter : ∀ args w, (callFunc fn args).run P w = .ok (.enter fn args) w)
    (hm : ∀ (v : Value) w, (method (P.types.size + Made.depth) rt v m).run P w = .ok (fn, v) w) (ho : o.op = .call { callee := .invoke x m, args := as, argTypes := ts }) (hx : ev e x = some (.iface rt recv)) (ha : evs e as.toList = some ps) (hl : ∀ i ob, lk i l = some ob → f i = some ob) (hk : an.nm.length = k)
    (h : ∀ out, Ω an.nm out → out.pan = none ∧ K ⟨packA out.rs, out.u, out.nw⟩) : loudC P o e f K an :=
  ⟨fn, _, l, Ω, CallOk_invoke ho hx ha hm henter, by rw [hk]; exact hc, hl, h⟩
theorem loudG {b : Bool} {v : PV} (h : ∀ K' : Out → Prop, b = true → K' ⟨v, [], []⟩ → loudC P o e f K' an) (hk : K ⟨gd b v, [], []⟩) : loG (some b) (loudC P o e f K an) K := by
  cases b with
  | true => exact .inl ⟨rfl, h _ rfl hk⟩
  | false => exact .inr ⟨rfl, hk⟩
end
end Sg
