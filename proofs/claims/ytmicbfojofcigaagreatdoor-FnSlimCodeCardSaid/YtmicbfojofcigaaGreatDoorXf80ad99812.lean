/- A part of a proof: lemmas and contracts of functions; the last text of the claim says what is proved. -/
import Derived.Test.YtmicbfojofcigaaGreatDoorX6528b66bd9
set_option linter.unusedSectionVars false
set_option linter.unusedSimpArgs false
set_option linter.unusedVariables false
namespace Sg
open Go
set_option linter.unusedSectionVars false
variable [Glob]
omit [Glob] in
theorem setl_self {y : Nat} {o : AObj} : {l : List (Nat × AObj)} → lk y l = some o → setl y o l = l
  | [], h => by simp [lk] at h
  | (k, v) :: r, h => by
    simp only [lk] at h
    simp only [setl]
    split at h
    · rename_i e; subst e; injection h with h; subst h; simp
    · rename_i e; rw [if_neg e, setl_self h]
section
variable {P : Program} {r : Option Nat} {N : Nat}
theorem callG_u {ops : Array Oper} {l : List Oper} {Q : ExitA → MS → Prop} {s : MS} {o : Oper} {b : Bool} {x : Operand} {as : Array Operand} {ts : Array TypeId} {f : FuncId} {cap args : List PV} {rv : PV} {lf : List (Nat × AObj)} (y : Nat) (T : TypeId) (cs cs' cs2 : List PV)
    (hc : b = true → CallF P f (args ++ cap) lf 0 (fun _ o => o = { rs := [rv], u := [(y, some (.cells T cs'))] })) (henter : ∀ args w, (callFunc f args).run P w = .ok (.enter f args) w)
    (h1 : b = true → cs2 = cs') (h0 : b = false → cs2 = cs) (hy : lk y s.l = some (.cells T cs)) (hl : b = true → subF s lf) (ho : o.op = .call { callee := .value x, args := as, argTypes := ts }) (hd : dstOk N o.dst = true)
    (hx : b = true → ev s.env x = some (.fn (.func f) [] cap)) (ha : b = true → evs s.env as.toList = some args)
    (hk : kVal P r N ops l Q { s with l := setl y (.cells T cs2) s.l } o.dst (gd b rv)) :
    opG (some b) (OpM P r N o s (kRun P r N ops l Q) (kPan Q)) (kVal P r N ops l Q s o.dst) := by
  cases b with
  | true =>
    refine .inl ⟨rfl, OpM_call (first := []) (ps := args) ho hd (hx rfl) (ha rfl) henter (hc rfl) (subF_spec (hl rfl)) ?_⟩
    rintro out rfl
    refine ⟨trivial, ?_⟩
    rw [h1 rfl] at hk
    exact hk
  | false =>
    refine .inr ⟨rfl, ?_⟩
    rw [h0 rfl, setl_self hy] at hk
    exact hk
end
end Sg
