/- A part of a proof: lemmas and contracts of functions; the last text of the claim says what is proved. -/
import Derived.Test.YtmicbfojofcigaaGreatXff0e8cedc7
import Derived.Lib.ItoaWalk
import Derived.Lib.ItoaNum
set_option linter.unusedSectionVars false
set_option linter.unusedSimpArgs false
set_option linter.unusedVariables false
namespace Go.Proofs.YtmicbfojofcigaaGreat
open Go Sg
set_option maxRecDepth 100000
set_option linter.unusedSimpArgs false
set_option linter.unusedVariables false
set_option linter.unusedSectionVars false
set_option maxHeartbeats 4000000
variable [Tab]
theorem listOk_set' {l : List Int} (h : listOk l = true) (i : Nat) (n : Int) : listOk (l.set i (cut n)) = true := by
  simp only [listOk, Bool.and_eq_true, List.all_eq_true] at h ⊢
  refine ⟨fun x hx => ?_, by rw [List.length_set]; exact h.2⟩
  rcases List.mem_or_eq_of_mem_set hx with h1 | h1
  · exact h.1 x h1
  · rw [h1, cut_cut']; simp
theorem put_okm {m : MM} (h : m.ok = true) (a : AD) (n : Int) : (m.put a n).ok = true := by
  simp only [MM.ok, Bool.and_eq_true] at h
  unfold MM.put
  split
  · simp only [MM.ok, Bool.and_eq_true]; exact ⟨⟨h.1.1, listOk_set' h.1.2 _ _⟩, h.2⟩
  · split
    · simp only [MM.ok, Bool.and_eq_true]; exact ⟨h.1, listOk_set' h.2 _ _⟩
    · simp only [MM.ok, Bool.and_eq_true]; exact h
theorem wh_okm {c : MM → Bool} {b : MM → Nat → MM × Nat × Bool} (h : ∀ m F, m.ok = true → (b m F).1.ok = true) : ∀ g m F, m.ok = true → (wh c b g m F).1.ok = true
  | 0, m, F => fun hm => hm
  | g + 1, m, F => fun hm => by
    simp only [wh]
    split
    · split
      · exact h m F hm
      · split
        · exact h m F hm
        · exact wh_okm h g _ _ (h m F hm)
    · exact hm
mutual
theorem Sm.ex_okm : (s : Sm) → (m : MM) → (F : Nat) → m.ok = true → (s.ex m F).1.ok = true
  | .mk k a e th el, m, F => fun hm => by
    simp only [Sm.ex]
    split
    · exact put_okm hm _ _
    · split
      · exact wh_okm (fun m F hm => Sm.exL_okm th m F hm) _ _ _ hm
      · split
        · exact Sm.exL_okm th m F hm
        · exact Sm.exL_okm el m F hm
theorem Sm.exL_okm : (l : List Sm) → (m : MM) → (F : Nat) → m.ok = true → (Sm.exL l m F).1.ok = true
  | [], m, F => fun hm => hm
  | s :: l, m, F => fun hm => by
    simp only [Sm.exL]
    split
    · exact Sm.ex_okm s m F hm
    · exact Sm.exL_okm l _ _ (Sm.ex_okm s m F hm)
end
mutual
def Sm.wr (a : AD) : Sm → Bool
  | .mk k t _ th el => (k == 1 && (t.kind == a.kind && t.at' == a.at')) || Sm.wrL a th || Sm.wrL a el
def Sm.wrL (a : AD) : List Sm → Bool
  | [] => false
  | s :: l => s.wr a || Sm.wrL a l
end
theorem Sm.wr_eq (a : AD) (s : Sm) : s.wr a = ((s.kind == 1 && (s.to'.kind == a.kind && s.to'.at' == a.at')) || Sm.wrL a s.th || Sm.wrL a s.el) := by cases s; simp only [Sm.wr, Sm.kind, Sm.to', Sm.th, Sm.el]
theorem Sm.wrL_any (a : AD) (l : List Sm) : Sm.wrL a l = l.any (Sm.wr a) := by
  induction l with
  | nil => rfl
  | cons s l ih => simp only [Sm.wrL, List.any_cons, ih]
theorem rb_wr (a : AD) (s : Sm) : Sm.wrL a (rb s) = true → s.wr a = true := by
  rw [Sm.wr_eq]
  unfold rb
  repeat' split
  · intro h; cases h
  · intro h; simp [h]
  · intro h; simp [h]
  · intro h; simpa [Sm.wrL, Sm.wr_eq] using h
mutual
theorem Sm.sl_wr (a : AD) : (s : Sm) → Sm.wrL a s.sl = true → s.wr a = true
  | .mk k t e th el => by
    rw [Sm.sl]
    intro h
    have := rb_wr a _ h
    simp only [Sm.wr, Bool.or_eq_true] at this ⊢
    rcases this with (h1 | h1) | h1
    · exact .inl (.inl h1)
    · exact .inl (.inr (Sm.slL_wr a th h1))
    · exact .inr (Sm.slL_wr a el h1)
theorem Sm.slL_wr (a : AD) : (l : List Sm) → Sm.wrL a (Sm.slL l) = true → Sm.wrL a l = true
  | [] => id
  | s :: l => by
    rw [Sm.slL, Sm.wrL_any, List.any_append, ← Sm.wrL_any, ← Sm.wrL_any]
    simp only [Sm.wrL, Bool.or_eq_true]
    rintro (h | h)
    · exact .inl (Sm.sl_wr a s h)
    · exact .inr (Sm.slL_wr a l h)
end
end Go.Proofs.YtmicbfojofcigaaGreat
namespace Go.Proofs.YtmicbfojofcigaaGreat
open Go Sg
set_option maxRecDepth 100000
set_option linter.unusedSimpArgs false
set_option linter.unusedVariables false
set_option linter.unusedSectionVars false
set_option maxHeartbeats 4000000
variable [Tab]
mutual
def Sm.cln : Sm → Nat
  | .mk k _ e th el => if k == 1 then e.sz + 1 else if k == 2 then e.sz + 1 + Sm.clnL th + 1 + Sm.clnL el else if k == 3 then e.sz + 1 + Sm.clnL th + 1 else e.sz
def Sm.clnL : List Sm → Nat | [] => 0 | s :: l => s.cln + Sm.clnL l
end
theorem Sm.cln_eq (s : Sm) : s.cln = if s.kind == 1 then s.e.sz + 1 else if s.kind == 2 then s.e.sz + 1 + Sm.clnL s.th + 1 + Sm.clnL s.el else if s.kind == 3 then s.e.sz + 1 + Sm.clnL s.th + 1 else s.e.sz := by cases s; simp only [Sm.cln, Sm.kind, Sm.e, Sm.th, Sm.el] <;> rfl
theorem Sm.clnL_app (l r : List Sm) : Sm.clnL (l ++ r) = Sm.clnL l + Sm.clnL r := by
  induction l with
  | nil => simp [Sm.clnL]
  | cons s l ih => simp only [List.cons_append, Sm.clnL, ih]; omega
mutual
theorem Sm.cd_cln : (s : Sm) → (k : Nat) → (s.cd k).length = s.cln
  | .mk kd a e th el, k => by
    simp only [Sm.cd, Sm.cln]
    repeat' split
    all_goals simp only [List.length_append, List.length_cons, List.length_nil, Ex.cd_len, Sm.cdL_cln th, Sm.cdL_cln el]
theorem Sm.cdL_cln : (l : List Sm) → (k : Nat) → (Sm.cdL l k).length = Sm.clnL l
  | [], k => rfl
  | s :: l, k => by simp only [Sm.cdL, Sm.clnL, List.length_append, Sm.cd_cln s, Sm.cdL_cln l]
end
theorem rb_cln (s : Sm) : Sm.clnL (rb s) ≤ s.cln := by
  have := s.cln_eq
  unfold rb
  split
  · simp [Sm.clnL]
  · split
    · rename_i h
      simp only [Bool.and_eq_true] at h
      have h1 : s.kind = 2 := by simpa using h.1.1
      rw [this, if_neg (by simp [h1]), if_pos (by simp [h1])]; omega
    · split
      · rename_i h
        simp only [Bool.and_eq_true] at h
        have h1 : s.kind = 2 := by simpa using h.1
        rw [this, if_neg (by simp [h1]), if_pos (by simp [h1])]; omega
      · simp [Sm.clnL]
mutual
theorem Sm.sl_cln : (s : Sm) → Sm.clnL s.sl ≤ s.cln
  | .mk k a e th el => by
    rw [Sm.sl]
    refine Nat.le_trans (rb_cln _) ?_
    simp only [Sm.cln]
    have := Sm.slL_cln th
    have := Sm.slL_cln el
    have := e.slim_sz
    repeat' split
    all_goals omega
theorem Sm.slL_cln : (l : List Sm) → Sm.clnL (Sm.slL l) ≤ Sm.clnL l
  | [] => Nat.le_refl _
  | s :: l => by
    simp only [Sm.slL, Sm.clnL_app, Sm.clnL]
    have := Sm.sl_cln s
    have := Sm.slL_cln l
    omega
end
end Go.Proofs.YtmicbfojofcigaaGreat
namespace Go.Proofs.YtmicbfojofcigaaGreat
open Go Sg
set_option maxRecDepth 100000
set_option linter.unusedSimpArgs false
set_option linter.unusedVariables false
set_option linter.unusedSectionVars false
set_option maxHeartbeats 4000000
variable [Tab]
theorem okC_dep {p : List GI} (h : okC p = true) : DOk p (depV p).1 ∧ (depV p).1.length = p.length + 1 := by
  have h2 := h
  unfold okC depV at h
  split at h
  · rename_i L hL
    have hV : (depV p).1 = L := by rw [depV, hL]
    rw [hV]
    unfold depthsF at hL
    split at hL
    · cases hL
    · rename_i hn
      obtain ⟨a, b, c⟩ := runD_at _ _ hL
      exact ⟨⟨b, eq_of_beq h, by omega, c⟩, a⟩
  · cases h
mutual
def Ex.dp : Ex → Int | .mk _ _ _ l => max (Ex.dpL l) 1
def Ex.dpL : List Ex → Int | [] => 0 | e :: l => max e.dp (1 + Ex.dpL l)
end
theorem Ex.dp_eq (e : Ex) : e.dp = max (Ex.dpL e.kids) 1 := by cases e; simp only [Ex.dp, Ex.kids]
theorem Ex.dp_pos (e : Ex) : 1 ≤ e.dp := by rw [Ex.dp_eq]; omega
theorem Ex.dpL_pos (l : List Ex) : 0 ≤ Ex.dpL l := by
  cases l with
  | nil => simp [Ex.dpL]
  | cons e l => simp only [Ex.dpL]; have := e.dp_pos; omega
mutual
def Sm.dp : Sm → Int
  | .mk k _ e th el => if k == 1 then e.dp else if k == 2 then max e.dp (max (Sm.dpL th) (Sm.dpL el)) else max e.dp (Sm.dpL th)
def Sm.dpL : List Sm → Int | [] => 0 | s :: l => max s.dp (Sm.dpL l)
end
theorem Sm.dp_eq (s : Sm) : s.dp = if s.kind == 1 then s.e.dp else if s.kind == 2 then max s.e.dp (max (Sm.dpL s.th) (Sm.dpL s.el)) else max s.e.dp (Sm.dpL s.th) := by cases s; simp only [Sm.dp, Sm.kind, Sm.e, Sm.th, Sm.el] <;> rfl
theorem Sm.dp_pos (s : Sm) : 1 ≤ s.dp := by
  rw [Sm.dp_eq]
  have := s.e.dp_pos
  repeat' split
  all_goals omega
theorem Sm.dpL_pos (l : List Sm) : 0 ≤ Sm.dpL l := by
  cases l with
  | nil => simp [Sm.dpL]
  | cons e l => simp only [Sm.dpL]; have := e.dp_pos; omega
theorem Sm.dpL_app (l r : List Sm) : Sm.dpL (l ++ r) = max (Sm.dpL l) (Sm.dpL r) := by
  induction l with
  | nil => simp only [List.nil_append, Sm.dpL]; have := Sm.dpL_pos r; omega
  | cons s l ih => simp only [List.cons_append, Sm.dpL, ih]; omega
theorem dp_num (n : Int) : (numX n).dp = 1 := by simp only [numX, Ex.dp, Ex.dpL]; omega
theorem dp_kid {e : Ex} {i : Nat} (h : i < e.kids.length) : (e.kids.getD i default).dp ≤ e.dp := by
  rw [Ex.dp_eq e]
  have key : ∀ (l : List Ex) (i : Nat), i < l.length → (l.getD i default).dp ≤ Ex.dpL l := by
    intro l
    induction l with
    | nil => intro i h; simp at h
    | cons e l ih =>
      intro i h
      cases i with
      | zero => simp only [List.getD_cons_zero, Ex.dpL]; omega
      | succ i =>
        simp only [List.getD_cons_succ, Ex.dpL]
        have := ih i (by simpa using h)
        omega
  have := key e.kids i h
  omega
theorem slimN_dp (e : Ex) : (slimN e).dp ≤ e.dp := by
  have hp := e.dp_pos
  unfold slimN
  split
  · rw [dp_num]; exact hp
  · split
    · rename_i h2
      have h2' : e.kids.length = 2 := by simp at h2; omega
      have h0 := dp_kid (e := e) (i := 0) (by omega)
      have h1 := dp_kid (e := e) (i := 1) (by omega)
      unfold slim2
      repeat' split
      all_goals first | (rw [dp_num]; exact hp) | exact h0 | exact h1 | exact Int.le_refl _
    · exact Int.le_refl _
mutual
theorem Ex.slim_dp : (e : Ex) → e.slim.dp ≤ e.dp
  | .mk k n a l => by
    rw [Ex.slim]
    refine Int.le_trans (slimN_dp _) ?_
    simp only [Ex.dp]
    have := Ex.slimL_dp l
    omega
theorem Ex.slimL_dp : (l : List Ex) → Ex.dpL (Ex.slimL l) ≤ Ex.dpL l
  | [] => Int.le_refl _
  | e :: l => by
    simp only [Ex.slimL, Ex.dpL]
    have := Ex.slim_dp e
    have := Ex.slimL_dp l
    omega
end
theorem rb_dp (s : Sm) : Sm.dpL (rb s) ≤ s.dp := by
  have h1 := s.dp_pos
  have h2 := s.dp_eq
  unfold rb
  split
  · simp only [Sm.dpL]; omega
  · split
    · rename_i h
      simp only [Bool.and_eq_true] at h
      have hk : s.kind = 2 := by simpa using h.1.1
      rw [if_neg (by simp [hk]), if_pos (by simp [hk])] at h2
      omega
    · split
      · rename_i h
        simp only [Bool.and_eq_true] at h
        have hk : s.kind = 2 := by simpa using h.1
        rw [if_neg (by simp [hk]), if_pos (by simp [hk])] at h2
        omega
      · simp only [Sm.dpL]; omega
mutual
theorem Sm.sl_dp : (s : Sm) → Sm.dpL s.sl ≤ s.dp
  | .mk k a e th el => by
    rw [Sm.sl]
    refine Int.le_trans (rb_dp _) ?_
    simp only [Sm.dp]
    have := Sm.slL_dp th
    have := Sm.slL_dp el
    have := e.slim_dp
    repeat' split
    all_goals omega
theorem Sm.slL_dp : (l : List Sm) → Sm.dpL (Sm.slL l) ≤ Sm.dpL l
  | [] => Int.le_refl _
  | s :: l => by
    simp only [Sm.slL, Sm.dpL_app, Sm.dpL]
    have := Sm.sl_dp s
    have := Sm.slL_dp l
    omega
end
def Sprd (D : List Int) (k len : Nat) (z M : Int) : Prop := D.getD (k + len) 0 = z ∧ (∀ j, k ≤ j → j ≤ k + len → D.getD j 0 ≤ M) ∧ ∃ j, k ≤ j ∧ j ≤ k + len ∧ D.getD j 0 = M
theorem Sprd.join {D : List Int} {k a b : Nat} {z1 z2 M1 M2 : Int} (h1 : Sprd D k a z1 M1) (h2 : Sprd D (k + a) b z2 M2) : Sprd D k (a + b) z2 (max M1 M2) := by
  obtain ⟨a1, a2, j1, a3, a4, a5⟩ := h1
  obtain ⟨b1, b2, j2, b3, b4, b5⟩ := h2
  refine ⟨by rw [← Nat.add_assoc]; exact b1, fun j g1 g2 => ?_, ?_⟩
  · by_cases hj : j ≤ k + a
    · have := a2 j g1 hj; omega
    · have := b2 j (by omega) (by omega); omega
  · by_cases hm : M2 ≤ M1
    · exact ⟨j1, a3, by omega, by omega⟩
    · exact ⟨j2, by omega, by omega, by omega⟩
theorem Sprd.one {D : List Int} {k : Nat} {n z : Int} (h0 : D.getD k 0 = n) (h1 : D.getD (k + 1) 0 = z) : Sprd D k 1 z (max n z) := by
  refine ⟨h1, fun j g1 g2 => ?_, ?_⟩
  · by_cases hj : j = k
    · subst hj; omega
    · have : j = k + 1 := by omega
      subst this; omega
  · by_cases hm : z ≤ n
    · exact ⟨k, Nat.le_refl _, by omega, by omega⟩
    · exact ⟨k + 1, by omega, Nat.le_refl _, by omega⟩
theorem Sprd.cast {D : List Int} {k len : Nat} {z M M' : Int} (h : Sprd D k len z M) (e : M = M') : Sprd D k len z M' := e ▸ h
theorem ex_dep {p : List GI} {D : List Int} (hD : DOk p D) (d : Nat) : (∀ e : Ex, formD d e = true → ∀ (k : Nat) (n : Int), At p k e.cd → D.getD k 0 = n → Sprd D k e.cd.length (n + 1) (n + e.dp)) := by
  have lst : ∀ d, (∀ e : Ex, formD d e = true → ∀ (k : Nat) (n : Int), At p k e.cd → D.getD k 0 = n → Sprd D k e.cd.length (n + 1) (n + e.dp)) →
      ∀ l : List Ex, (∀ x ∈ l, formD d x = true) → ∀ (k : Nat) (n : Int), At p k (Ex.cdL l) → D.getD k 0 = n → Sprd D k (Ex.cdL l).length (n + l.length) (n + Ex.dpL l) := by
    intro d he l
    induction l with
    | nil =>
      intro _ k n _ hn
      have e0 : (Ex.cdL []).length = 0 := rfl
      rw [e0]
      refine ⟨by rw [Nat.add_zero, hn]; simp, fun j g1 g2 => ?_, ⟨k, Nat.le_refl _, by omega, by rw [hn]; simp [Ex.dpL]⟩⟩
      have : j = k := by omega
      subst this
      rw [hn]; simp [Ex.dpL]
    | cons e l ih =>
      intro hf k n hp hn
      simp only [Ex.cdL] at hp
      have h1 := he e (hf e (by simp)) k n hp.fst hn
      have h2 := ih (fun x hx => hf x (by simp [hx])) (k + e.cd.length) (n + 1) hp.snd h1.1
      have h3 := h1.join h2
      simp only [Ex.cdL, Ex.dpL, List.length_append, List.length_cons]
      have e1 : n + 1 + (l.length : Int) = n + ((l.length + 1 : Nat) : Int) := by omega
      rw [← e1]
      exact h3.cast (by omega)
  induction d with
  | zero => intro e h; simp [formD] at h
  | succ d ih =>
    intro e hf k n hp hn
    obtain ⟨f1, f2, f3, f4, f5, f6, f7⟩ := form_inv2 hf (k + (Ex.cdL e.kids).length) p.length
    rw [Ex.cd_eq] at hp ⊢
    have h1 := lst d ih e.kids f7 k n hp.fst hn
    obtain ⟨g1, g2⟩ := hp.snd.one
    have hat := hD.at' _ g1
    have hfo := hat.fo (by rw [g2]; exact f3)
    rw [g2] at hfo
    have ht : tD (lastI e) D (k + (Ex.cdL e.kids).length) = n + 1 := by unfold tD; rw [h1.1, f4, f5]; omega
    rw [ht] at hfo
    have h2 := h1.join (Sprd.one h1.1 hfo)
    simp only [List.length_append, List.length_cons, List.length_nil]
    have hpos := Ex.dpL_pos e.kids
    have hl : (e.kids.length : Int) ≤ max (Ex.dpL e.kids) 1 := by
      have := h1.2.1 (k + (Ex.cdL e.kids).length) (by omega) (Nat.le_refl _)
      rw [h1.1] at this
      omega
    have hl2 : (n + (e.kids.length : Int)) ≤ n + Ex.dpL e.kids := by
      have := h1.2.1 (k + (Ex.cdL e.kids).length) (by omega) (Nat.le_refl _)
      rw [h1.1] at this
      exact this
    refine h2.cast ?_
    rw [Ex.dp_eq]
    omega
theorem Sprd.nil {D : List Int} {k : Nat} {n : Int} (h : D.getD k 0 = n) : Sprd D k 0 n n := by
  refine ⟨by rw [Nat.add_zero]; exact h, fun j g1 g2 => ?_, ⟨k, Nat.le_refl _, by omega, h⟩⟩
  have : j = k := by omega
  subst this; omega
theorem sm_dep {p : List GI} {D : List Int} (hD : DOk p D) : ∀ (d : Nat) (l : List Sm), formS d l = true → ∀ k, At p k (Sm.cdL l k) → D.getD k 0 = 0 → Sprd D k (Sm.cdL l k).length 0 (Sm.dpL l) := by
  have lst : ∀ l : List Sm, (∀ s ∈ l, ∀ k, At p k (s.cd k) → D.getD k 0 = 0 → Sprd D k (s.cd k).length 0 s.dp) → ∀ k, At p k (Sm.cdL l k) → D.getD k 0 = 0 → Sprd D k (Sm.cdL l k).length 0 (Sm.dpL l) := by
    intro l
    induction l with
    | nil => intro _ k _ hz; exact Sprd.nil hz
    | cons s l ih =>
      intro h k hp hz
      simp only [Sm.cdL] at hp
      have h1 := h s (by simp) k hp.fst hz
      have h2 := ih (fun s hs => h s (by simp [hs])) _ hp.snd h1.1
      simp only [Sm.cdL, Sm.dpL, List.length_append]
      exact h1.join h2
  intro d
  induction d with
  | zero =>
    intro l hf k hp hz
    simp only [formS, beq_iff_eq] at hf
    have : l = [] := List.eq_nil_of_length_eq_zero hf
    subst this
    exact Sprd.nil hz
  | succ d ih =>
    intro l hf
    refine lst l fun s hs k hp hz => ?_
    have hf := List.all_eq_true.1 hf s hs
    simp only [Bool.and_eq_true] at hf
    obtain ⟨⟨⟨hpl, hok⟩, hth⟩, hel⟩ := hf
    have hA := ih s.th hth
    have hB := ih s.el hel
    have hdp := s.dp_eq
    have hep := s.e.dp_pos
    have htp := Sm.dpL_pos s.th
    have hlp := Sm.dpL_pos s.el
    have hE : At p k s.e.cd → Sprd D k s.e.cd.length 1 s.e.dp := fun h => by
      have := ex_dep hD 6 s.e (ok_form hok) k 0 h hz
      simpa using this
    rw [Sm.cd_eq] at hp ⊢
    unfold Sm.plain at hpl
    split
    · rename_i q1
      rw [if_pos q1] at hp hdp
      have h1 := hE hp.fst
      obtain ⟨g1, g2⟩ := hp.snd.one
      have hfo := (hD.at' _ g1).fo (by rw [g2]; rfl)
      rw [g2] at hfo
      have ht : tD ⟨3, 0, s.to'⟩ D (k + s.e.cd.length) = 0 := by unfold tD; rw [h1.1]; simp [GI.takes, GI.gives]
      rw [ht] at hfo
      have h2 := h1.join (Sprd.one h1.1 hfo)
      simp only [List.length_append, List.length_cons, List.length_nil]
      exact h2.cast (by rw [hdp]; omega)
    rename_i q1
    rw [if_neg q1] at hp hdp
    split
    · rename_i q2
      rw [if_pos q2] at hp hdp
      generalize hEl : s.e.cd = E at *
      generalize hAl : Sm.cdL s.th (k + E.length + 1) = A at *
      generalize hBl : Sm.cdL s.el (k + E.length + 1 + A.length + 1) = Bc at *
      have h1 := hE hp.fst.fst.fst.fst
      obtain ⟨g1, g2⟩ := hp.fst.fst.fst.snd.one
      have hat := hD.at' _ g1
      have ht : tD (p.getD (k + E.length) default) D (k + E.length) = 0 := by rw [g2]; unfold tD; rw [h1.1]; simp [GI.takes, GI.gives]
      have hfo := hat.fo (by rw [g2]; rfl)
      have hgo := hat.go (by rw [g2]; rfl)
      rw [ht] at hfo hgo
      rw [g2] at hgo
      have hA1 := hp.fst.fst.snd
      have eA : k + (E ++ [(⟨6, (k + E.length + 1 + A.length + 1 : Nat), A0⟩ : GI)]).length = k + E.length + 1 := by simp; omega
      rw [eA] at hA1
      have h2 := hA (k + E.length + 1) (by rw [hAl]; exact hA1) hfo
      rw [hAl] at h2
      have hJ := hp.fst.snd
      have eJ : k + (E ++ [(⟨6, (k + E.length + 1 + A.length + 1 : Nat), A0⟩ : GI)] ++ A).length = k + E.length + 1 + A.length := by simp; omega
      rw [eJ] at hJ
      obtain ⟨j1, j2⟩ := hJ.one
      have hjt := hD.at' _ j1
      have hB1 := hp.snd
      have eB : k + (E ++ [(⟨6, (k + E.length + 1 + A.length + 1 : Nat), A0⟩ : GI)] ++ A ++ [(⟨7, (k + E.length + 1 + A.length + 1 + Bc.length : Nat), A0⟩ : GI)]).length = k + E.length + 1 + A.length + 1 := by simp; omega
      rw [eB] at hB1
      have hgo' : D.getD (k + E.length + 1 + A.length + 1) 0 = 0 := by
        have e : ((k + E.length + 1 + A.length + 1 : Nat) : Int).toNat = k + E.length + 1 + A.length + 1 := by omega
        have := hgo
        dsimp only at this
        rw [e] at this
        exact this
      have h3 := hB (k + E.length + 1 + A.length + 1) (by rw [hBl]; exact hB1) hgo'
      rw [hBl] at h3
      have c1 := h1.join (Sprd.one h1.1 hfo)
      have c2 := c1.join (by rw [Nat.add_assoc] at h2; exact h2)
      have e3 : D.getD (k + (E.length + 1 + A.length)) 0 = 0 := by rw [show k + (E.length + 1 + A.length) = k + E.length + 1 + A.length from by omega]; exact h2.1
      have e4 : D.getD (k + (E.length + 1 + A.length) + 1) 0 = 0 := by rw [show k + (E.length + 1 + A.length) + 1 = k + E.length + 1 + A.length + 1 from by omega]; exact hgo'
      have c3 := c2.join (Sprd.one e3 e4)
      have c4 := c3.join (by rw [show k + (E.length + 1 + A.length + 1) = k + E.length + 1 + A.length + 1 from by omega]; exact h3)
      have el : (E ++ [(⟨6, (k + E.length + 1 + A.length + 1 : Nat), A0⟩ : GI)] ++ A ++ [(⟨7, (k + E.length + 1 + A.length + 1 + Bc.length : Nat), A0⟩ : GI)] ++ Bc).length = E.length + 1 + A.length + 1 + Bc.length := by simp; omega
      rw [el]
      exact c4.cast (by rw [hdp]; omega)
    · rename_i q2
      rw [if_neg q2] at hp hdp
      have q3 : (s.kind == 3) = true := by
        rw [if_neg q1, if_neg q2] at hpl
        split at hpl
        · assumption
        · cases hpl
      rw [if_pos q3] at hp ⊢
      generalize hEl : s.e.cd = E at *
      generalize hAl : Sm.cdL s.th (k + E.length + 1) = A at *
      have h1 := hE hp.fst.fst.fst
      obtain ⟨g1, g2⟩ := hp.fst.fst.snd.one
      have hat := hD.at' _ g1
      have ht : tD (p.getD (k + E.length) default) D (k + E.length) = 0 := by rw [g2]; unfold tD; rw [h1.1]; simp [GI.takes, GI.gives]
      have hfo := hat.fo (by rw [g2]; rfl)
      have hgo := hat.go (by rw [g2]; rfl)
      rw [ht] at hfo hgo
      rw [g2] at hgo
      have hA1 := hp.fst.snd
      have eA : k + (E ++ [(⟨6, (k + E.length + 1 + A.length + 1 : Nat), A0⟩ : GI)]).length = k + E.length + 1 := by simp; omega
      rw [eA] at hA1
      have h2 := hA (k + E.length + 1) (by rw [hAl]; exact hA1) hfo
      rw [hAl] at h2
      have hgo' : D.getD (k + E.length + 1 + A.length + 1) 0 = 0 := by
        have e : ((k + E.length + 1 + A.length + 1 : Nat) : Int).toNat = k + E.length + 1 + A.length + 1 := by omega
        have := hgo
        dsimp only at this
        rw [e] at this
        exact this
      have c1 := h1.join (Sprd.one h1.1 hfo)
      have c2 := c1.join (by rw [Nat.add_assoc] at h2; exact h2)
      have e3 : D.getD (k + (E.length + 1 + A.length)) 0 = 0 := by rw [show k + (E.length + 1 + A.length) = k + E.length + 1 + A.length from by omega]; exact h2.1
      have e4 : D.getD (k + (E.length + 1 + A.length) + 1) 0 = 0 := by rw [show k + (E.length + 1 + A.length) + 1 = k + E.length + 1 + A.length + 1 from by omega]; exact hgo'
      have c3 := c2.join (Sprd.one e3 e4)
      have el : (E ++ [(⟨6, (k + E.length + 1 + A.length + 1 : Nat), A0⟩ : GI)] ++ A ++ [(⟨8, (k : Nat), A0⟩ : GI)]).length = E.length + 1 + A.length + 1 := by simp; omega
      rw [el]
      exact c3.cast (by rw [hdp]; omega)
theorem mxI_le {L : List Int} {M : Int} {n : Nat} (h0 : L.getD 0 0 ≤ M) (h : ∀ j, j < n → L.getD j 0 ≤ M) : mxI L n ≤ M := by
  induction n with
  | zero => exact h0
  | succ n ih =>
    simp only [mxI]
    have := ih fun j hj => h j (by omega)
    have := h n (by omega)
    split <;> omega
theorem le_mxI {L : List Int} {n j : Nat} (hj : j < n) : L.getD j 0 ≤ mxI L n := by
  induction n with
  | zero => omega
  | succ n ih =>
    simp only [mxI]
    by_cases hjn : j = n
    · subst hjn; split <;> omega
    · have := ih (by omega)
      split <;> omega
def depC (p : List GI) : Int := if (depV p).2 then mxI (depV p).1 (depV p).1.length else -1
theorem depC_codeOf {l : List Sm} (h : okS l = true) (hn : (codeOf l).length ≤ 400) : depC (codeOf l) = Sm.dpL l := by
  have hok := okC_codeOf h hn
  obtain ⟨hD, hlen⟩ := okC_dep hok
  have h4 : formS 4 l = true := by simp only [okS, Bool.and_eq_true] at h; exact h.2
  have hcd : codeOf l = Sm.cdL l 0 := by rw [codeOf, if_pos h]
  have hs := sm_dep hD 4 l h4 0 ⟨[], [], by simp [hcd], rfl⟩ hD.z
  rw [← hcd] at hs
  have hV : (depV (codeOf l)).2 = true := hok
  rw [depC, hV, if_pos rfl, hlen]
  obtain ⟨_, h2, j, _, j2, j3⟩ := hs
  refine Int.le_antisymm (mxI_le (h2 0 (by omega) (by omega)) fun j hj => h2 j (by omega) (by omega)) ?_
  rw [← j3]
  exact le_mxI (by omega)
end Go.Proofs.YtmicbfojofcigaaGreat
namespace Go.Proofs.YtmicbfojofcigaaGreat
open Go Sg
set_option maxRecDepth 100000
set_option linter.unusedSimpArgs false
set_option linter.unusedVariables false
set_option linter.unusedSectionVars false
set_option maxHeartbeats 4000000
variable [Tab]
def GI.by' (i : GI) : Int := i.gives - i.takes
theorem sturn_ok (i : GI) : PureF Tryz.prog 72 [.agg i.cs] [.int .i64 i.by', .int .i64 i.takes] := by
  refine pureF_of Tryz.func72 rfl Tryz.ntmps72 (by simp) T_ ?_
  intro f0 B Q hQ
  refine g_ [1] ?_
  refine g_ [5] ?_
  refine g_ [5,6] ?_
  refine c_ (fun hc0 => ?_) fun hc0 => ?_
  ·
    refine c_ (fun hc1 => ?_) fun hc1 => ?_
    ·
      refine g_ [2,3] ?_
      refine e_ Tryz.results72 ?_
      first
      | exact True.intro
      | first
        | (simp only [GI.by', GI.gives, GI.takes, *, ↓reduceIte, Bool.false_eq_true, Bool.or_self, Bool.or_true, Bool.true_or, Bool.or_false, Bool.false_or]; refine ⟨?_, ?_⟩ <;> first | rfl | omega; done)
        | (exfalso; simp_all; done)
        | (simp_all [GI.by', GI.gives, GI.takes]; done)
    refine g_ [5,9] ?_
    refine c_ (fun hc2 => ?_) fun hc2 => ?_
    ·
      refine c_ (fun hc3 => ?_) fun hc3 => ?_
      ·
        refine g_ [2,3] ?_
        refine e_ Tryz.results72 ?_
        first
        | exact True.intro
        | first
          | (simp only [GI.by', GI.gives, GI.takes, *, ↓reduceIte, Bool.false_eq_true, Bool.or_self, Bool.or_true, Bool.true_or, Bool.or_false, Bool.false_or]; refine ⟨?_, ?_⟩ <;> first | rfl | omega; done)
          | (exfalso; simp_all; done)
          | (simp_all [GI.by', GI.gives, GI.takes]; done)
      refine g_ [5,12] ?_
      refine c_ (fun hc4 => ?_) fun hc4 => ?_
      ·
        refine g_ [2,3] ?_
        refine e_ Tryz.results72 ?_
        first
        | exact True.intro
        | first
          | (simp only [GI.by', GI.gives, GI.takes, *, ↓reduceIte, Bool.false_eq_true, Bool.or_self, Bool.or_true, Bool.true_or, Bool.or_false, Bool.false_or]; refine ⟨?_, ?_⟩ <;> first | rfl | omega; done)
          | (exfalso; simp_all; done)
          | (simp_all [GI.by', GI.gives, GI.takes]; done)
      refine g_ [14] ?_
      refine c_ (fun hc5 => ?_) fun hc5 => ?_
      ·
        refine g_ [2,3] ?_
        refine e_ Tryz.results72 ?_
        first
        | exact True.intro
        | first
          | (simp only [GI.by', GI.gives, GI.takes, *, ↓reduceIte, Bool.false_eq_true, Bool.or_self, Bool.or_true, Bool.true_or, Bool.or_false, Bool.false_or]; refine ⟨?_, ?_⟩ <;> first | rfl | omega; done)
          | (exfalso; simp_all; done)
          | (simp_all [GI.by', GI.gives, GI.takes]; done)
      refine g_ [2,3] ?_
      refine e_ Tryz.results72 ?_
      first
      | exact True.intro
      | first
        | (simp only [GI.by', GI.gives, GI.takes, *, ↓reduceIte, Bool.false_eq_true, Bool.or_self, Bool.or_true, Bool.true_or, Bool.or_false, Bool.false_or]; refine ⟨?_, ?_⟩ <;> first | rfl | omega; done)
        | (exfalso; simp_all; done)
        | (simp_all [GI.by', GI.gives, GI.takes]; done)
    refine g_ [5,9] ?_
    refine c_ (fun hc6 => ?_) fun hc6 => ?_
    ·
      refine g_ [2,3] ?_
      refine e_ Tryz.results72 ?_
      first
      | exact True.intro
      | first
        | (simp only [GI.by', GI.gives, GI.takes, *, ↓reduceIte, Bool.false_eq_true, Bool.or_self, Bool.or_true, Bool.true_or, Bool.or_false, Bool.false_or]; refine ⟨?_, ?_⟩ <;> first | rfl | omega; done)
        | (exfalso; simp_all; done)
        | (simp_all [GI.by', GI.gives, GI.takes]; done)
    refine g_ [5,12] ?_
    refine c_ (fun hc7 => ?_) fun hc7 => ?_
    ·
      refine g_ [2,3] ?_
      refine e_ Tryz.results72 ?_
      first
      | exact True.intro
      | first
        | (simp only [GI.by', GI.gives, GI.takes, *, ↓reduceIte, Bool.false_eq_true, Bool.or_self, Bool.or_true, Bool.true_or, Bool.or_false, Bool.false_or]; refine ⟨?_, ?_⟩ <;> first | rfl | omega; done)
        | (exfalso; simp_all; done)
        | (simp_all [GI.by', GI.gives, GI.takes]; done)
    refine g_ [14] ?_
    refine c_ (fun hc8 => ?_) fun hc8 => ?_
    ·
      refine g_ [2,3] ?_
      refine e_ Tryz.results72 ?_
      first
      | exact True.intro
      | first
        | (simp only [GI.by', GI.gives, GI.takes, *, ↓reduceIte, Bool.false_eq_true, Bool.or_self, Bool.or_true, Bool.true_or, Bool.or_false, Bool.false_or]; refine ⟨?_, ?_⟩ <;> first | rfl | omega; done)
        | (exfalso; simp_all; done)
        | (simp_all [GI.by', GI.gives, GI.takes]; done)
    refine g_ [2,3] ?_
    refine e_ Tryz.results72 ?_
    first
    | exact True.intro
    | first
      | (simp only [GI.by', GI.gives, GI.takes, *, ↓reduceIte, Bool.false_eq_true, Bool.or_self, Bool.or_true, Bool.true_or, Bool.or_false, Bool.false_or]; refine ⟨?_, ?_⟩ <;> first | rfl | omega; done)
      | (exfalso; simp_all; done)
      | (simp_all [GI.by', GI.gives, GI.takes]; done)
  refine g_ [5,6] ?_
  refine c_ (fun hc9 => ?_) fun hc9 => ?_
  ·
    refine g_ [2,3] ?_
    refine e_ Tryz.results72 ?_
    first
    | exact True.intro
    | first
      | (simp only [GI.by', GI.gives, GI.takes, *, ↓reduceIte, Bool.false_eq_true, Bool.or_self, Bool.or_true, Bool.true_or, Bool.or_false, Bool.false_or]; refine ⟨?_, ?_⟩ <;> first | rfl | omega; done)
      | (exfalso; simp_all; done)
      | (simp_all [GI.by', GI.gives, GI.takes]; done)
  refine g_ [5,9] ?_
  refine c_ (fun hc10 => ?_) fun hc10 => ?_
  ·
    refine c_ (fun hc11 => ?_) fun hc11 => ?_
    ·
      refine g_ [2,3] ?_
      refine e_ Tryz.results72 ?_
      first
      | exact True.intro
      | first
        | (simp only [GI.by', GI.gives, GI.takes, *, ↓reduceIte, Bool.false_eq_true, Bool.or_self, Bool.or_true, Bool.true_or, Bool.or_false, Bool.false_or]; refine ⟨?_, ?_⟩ <;> first | rfl | omega; done)
        | (exfalso; simp_all; done)
        | (simp_all [GI.by', GI.gives, GI.takes]; done)
    refine g_ [5,12] ?_
    refine c_ (fun hc12 => ?_) fun hc12 => ?_
    ·
      refine g_ [2,3] ?_
      refine e_ Tryz.results72 ?_
      first
      | exact True.intro
      | first
        | (simp only [GI.by', GI.gives, GI.takes, *, ↓reduceIte, Bool.false_eq_true, Bool.or_self, Bool.or_true, Bool.true_or, Bool.or_false, Bool.false_or]; refine ⟨?_, ?_⟩ <;> first | rfl | omega; done)
        | (exfalso; simp_all; done)
        | (simp_all [GI.by', GI.gives, GI.takes]; done)
    refine g_ [14] ?_
    refine c_ (fun hc13 => ?_) fun hc13 => ?_
    ·
      refine g_ [2,3] ?_
      refine e_ Tryz.results72 ?_
      first
      | exact True.intro
      | first
        | (simp only [GI.by', GI.gives, GI.takes, *, ↓reduceIte, Bool.false_eq_true, Bool.or_self, Bool.or_true, Bool.true_or, Bool.or_false, Bool.false_or]; refine ⟨?_, ?_⟩ <;> first | rfl | omega; done)
        | (exfalso; simp_all; done)
        | (simp_all [GI.by', GI.gives, GI.takes]; done)
    refine g_ [2,3] ?_
    refine e_ Tryz.results72 ?_
    first
    | exact True.intro
    | first
      | (simp only [GI.by', GI.gives, GI.takes, *, ↓reduceIte, Bool.false_eq_true, Bool.or_self, Bool.or_true, Bool.true_or, Bool.or_false, Bool.false_or]; refine ⟨?_, ?_⟩ <;> first | rfl | omega; done)
      | (exfalso; simp_all; done)
      | (simp_all [GI.by', GI.gives, GI.takes]; done)
  refine g_ [5,9] ?_
  refine c_ (fun hc14 => ?_) fun hc14 => ?_
  ·
    refine g_ [2,3] ?_
    refine e_ Tryz.results72 ?_
    first
    | exact True.intro
    | first
      | (simp only [GI.by', GI.gives, GI.takes, *, ↓reduceIte, Bool.false_eq_true, Bool.or_self, Bool.or_true, Bool.true_or, Bool.or_false, Bool.false_or]; refine ⟨?_, ?_⟩ <;> first | rfl | omega; done)
      | (exfalso; simp_all; done)
      | (simp_all [GI.by', GI.gives, GI.takes]; done)
  refine g_ [5,12] ?_
  refine c_ (fun hc15 => ?_) fun hc15 => ?_
  ·
    refine g_ [2,3] ?_
    refine e_ Tryz.results72 ?_
    first
    | exact True.intro
    | first
      | (simp only [GI.by', GI.gives, GI.takes, *, ↓reduceIte, Bool.false_eq_true, Bool.or_self, Bool.or_true, Bool.true_or, Bool.or_false, Bool.false_or]; refine ⟨?_, ?_⟩ <;> first | rfl | omega; done)
      | (exfalso; simp_all; done)
      | (simp_all [GI.by', GI.gives, GI.takes]; done)
  refine g_ [14] ?_
  refine c_ (fun hc16 => ?_) fun hc16 => ?_
  ·
    refine g_ [2,3] ?_
    refine e_ Tryz.results72 ?_
    first
    | exact True.intro
    | first
      | (simp only [GI.by', GI.gives, GI.takes, *, ↓reduceIte, Bool.false_eq_true, Bool.or_self, Bool.or_true, Bool.true_or, Bool.or_false, Bool.false_or]; refine ⟨?_, ?_⟩ <;> first | rfl | omega; done)
      | (exfalso; simp_all; done)
      | (simp_all [GI.by', GI.gives, GI.takes]; done)
  refine g_ [2,3] ?_
  refine e_ Tryz.results72 ?_
  first
  | exact True.intro
  | first
    | (simp only [GI.by', GI.gives, GI.takes, *, ↓reduceIte, Bool.false_eq_true, Bool.or_self, Bool.or_true, Bool.true_or, Bool.or_false, Bool.false_or]; refine ⟨?_, ?_⟩ <;> first | rfl | omega; done)
    | (exfalso; simp_all; done)
    | (simp_all [GI.by', GI.gives, GI.takes]; done)
theorem sjumps_ok (i : GI) : PureF Tryz.prog 73 [.agg i.cs] [.bool i.goes] := by
  refine pureF_of Tryz.func73 rfl Tryz.ntmps73 (by simp) T_ ?_
  intro f0 B Q hQ
  refine g_ [1] ?_
  refine gD_ [2] ?_
  refine e_ Tryz.results73 ?_
  first
  | exact True.intro
  | rfl
theorem cut_isNum (n : Int) : (cut n == n) = isNum n := by
  by_cases h : isNum n = true
  · rw [h]
    simp only [isNum, Bool.and_eq_true, decide_eq_true_eq] at h
    rw [beq_iff_eq]; unfold cut; omega
  · rw [Bool.not_eq_true] at h
    rw [h, beq_eq_false_iff_ne]
    intro hc
    have : isNum n = true := by
      unfold cut at hc
      simp only [isNum, Bool.and_eq_true, decide_eq_true_eq]; omega
    rw [h] at this; cases this
theorem sins_ok (i : GI) (k many : Int) : PureF Tryz.prog 71 [.agg i.cs, .int .i64 k, .int .i64 many] [.bool (i.ok k many)] := by
  refine pureF_of Tryz.func71 rfl Tryz.ntmps71 (by simp) T_ ?_
  intro f0 B Q hQ
  refine g_ [1,2,3] ?_
  refine g_ [1,2,3,7] ?_
  refine g_ [1,2,3,7,13] ?_
  refine g_ [1,2,3,7,13,14] ?_
  refine c_ (fun hc0 => ?_) fun hc0 => ?_
  ·
    refine n_ ?_
    refine dr_ mixed [6] 0 1 [B] [⟨[7],[],[],[],false⟩,⟨[16],[],[],[],false⟩,⟨[3,17],[],[],[],false⟩,⟨[17,18],[0],[],[],false⟩,⟨[17,19],[],[],[],true⟩,⟨[3,17],[],[],[],false⟩,⟨[17,21],[0],[],[],false⟩,⟨[17,20,22],[],[],[],false⟩,⟨[17,23],[],[],[],false⟩,⟨[24],[],[],[],false⟩] [0,1,2,3,5,6,4,7,8,9] [[],[0],[0,1],[0,1,2],[0,1,2,3],[0,1],[0,1,5],[0,1,2,3,4,5,6],[0,1,2,3,4,5,6,7],[0,1,2,3,4,5,6,7,8]] 1 ?_
    intro O A K hO hA hK;simp only [atL_cons,atL_nil,Nat.reduceAdd,Nat.zero_add] at hO hA
    refine SE_ ?_
    first | refine lg_ (fun hb => cut_ok i.n) Tryz.call52 ?_ | refine lpE_ (cut_ok i.n) Tryz.call52 ?_
    refine hK _ (S_ ?_);clear hK K hO hA O A
    refine e_ Tryz.results71 ?_
    first
    | exact True.intro
    | first
      | (simp only [cut_isNum, GI.ok, GI.noA, isTwo, *, ↓reduceIte, Bool.false_eq_true, Bool.or_true, Bool.true_or, Bool.or_self, Bool.or_false]; done)
      | (simp only [cut_isNum, GI.ok, GI.noA, isTwo, *, ↓reduceIte, Bool.false_eq_true, Bool.or_true, Bool.true_or, Bool.or_self, Bool.or_false]; ac_rfl; done)
      | (exfalso; simp_all; done)
  refine g_ [1,2,3,7,13,25] ?_
  refine c_ (fun hc1 => ?_) fun hc1 => ?_
  ·
    refine n_ ?_
    refine wpM_regionK [6] rfl fun Q1 hQ1 => ?_
    refine SD_ ?_
    refine cpD_ (addrOk_ok i.a) Tryz.call53 ?_
    refine hQ1 _ _ (S_ ?_);clear hQ1 Q1
    refine e_ Tryz.results71 ?_
    first
    | exact True.intro
    | first
      | (simp only [cut_isNum, GI.ok, GI.noA, isTwo, *, ↓reduceIte, Bool.false_eq_true, Bool.or_true, Bool.true_or, Bool.or_self, Bool.or_false]; done)
      | (simp only [cut_isNum, GI.ok, GI.noA, isTwo, *, ↓reduceIte, Bool.false_eq_true, Bool.or_true, Bool.true_or, Bool.or_self, Bool.or_false]; ac_rfl; done)
      | (exfalso; simp_all; done)
  refine g_ [1,2,3,7,13,35] ?_
  refine c_ (fun hc2 => ?_) fun hc2 => ?_
  ·
    refine n_ ?_
    refine wpM_regionK [6] rfl fun Q1 hQ1 => ?_
    refine SD_ ?_
    refine cpD_ (addrOk_ok i.a) Tryz.call53 ?_
    refine hQ1 _ _ (S_ ?_);clear hQ1 Q1
    refine e_ Tryz.results71 ?_
    first
    | exact True.intro
    | first
      | (simp only [cut_isNum, GI.ok, GI.noA, isTwo, *, ↓reduceIte, Bool.false_eq_true, Bool.or_true, Bool.true_or, Bool.or_self, Bool.or_false]; done)
      | (simp only [cut_isNum, GI.ok, GI.noA, isTwo, *, ↓reduceIte, Bool.false_eq_true, Bool.or_true, Bool.true_or, Bool.or_self, Bool.or_false]; ac_rfl; done)
      | (exfalso; simp_all; done)
  refine g_ [1,2,3,7,13,51] ?_
  refine c_ (fun hc3 => ?_) fun hc3 => ?_
  ·
    refine gD_ [6] ?_
    refine e_ Tryz.results71 ?_
    first
    | exact True.intro
    | first
      | (simp only [cut_isNum, GI.ok, GI.noA, isTwo, *, ↓reduceIte, Bool.false_eq_true, Bool.or_true, Bool.true_or, Bool.or_self, Bool.or_false]; done)
      | (simp only [cut_isNum, GI.ok, GI.noA, isTwo, *, ↓reduceIte, Bool.false_eq_true, Bool.or_true, Bool.true_or, Bool.or_self, Bool.or_false]; ac_rfl; done)
      | (exfalso; simp_all; done)
  refine g_ [1,2,3,7,13,64] ?_
  refine c_ (fun hc4 => ?_) fun hc4 => ?_
  ·
    refine gD_ [6] ?_
    refine e_ Tryz.results71 ?_
    first
    | exact True.intro
    | first
      | (simp only [cut_isNum, GI.ok, GI.noA, isTwo, *, ↓reduceIte, Bool.false_eq_true, Bool.or_true, Bool.true_or, Bool.or_self, Bool.or_false]; done)
      | (simp only [cut_isNum, GI.ok, GI.noA, isTwo, *, ↓reduceIte, Bool.false_eq_true, Bool.or_true, Bool.true_or, Bool.or_self, Bool.or_false]; ac_rfl; done)
      | (exfalso; simp_all; done)
  refine g_ [1,2,3,7,13,72] ?_
  refine c_ (fun hc5 => ?_) fun hc5 => ?_
  ·
    refine c_ (fun hc6 => ?_) fun hc6 => ?_
    ·
      refine gD_ [6] ?_
      refine e_ Tryz.results71 ?_
      first
      | exact True.intro
      | first
        | (simp only [cut_isNum, GI.ok, GI.noA, isTwo, *, ↓reduceIte, Bool.false_eq_true, Bool.or_true, Bool.true_or, Bool.or_self, Bool.or_false]; done)
        | (simp only [cut_isNum, GI.ok, GI.noA, isTwo, *, ↓reduceIte, Bool.false_eq_true, Bool.or_true, Bool.true_or, Bool.or_self, Bool.or_false]; ac_rfl; done)
        | (exfalso; simp_all; done)
    refine g_ [1,3,7,88] ?_
    refine c_ (fun hc7 => ?_) fun hc7 => ?_
    ·
      refine gD_ [6] ?_
      refine e_ Tryz.results71 ?_
      first
      | exact True.intro
      | first
        | (simp only [cut_isNum, GI.ok, GI.noA, isTwo, *, ↓reduceIte, Bool.false_eq_true, Bool.or_true, Bool.true_or, Bool.or_self, Bool.or_false]; done)
        | (simp only [cut_isNum, GI.ok, GI.noA, isTwo, *, ↓reduceIte, Bool.false_eq_true, Bool.or_true, Bool.true_or, Bool.or_self, Bool.or_false]; ac_rfl; done)
        | (exfalso; simp_all; done)
    refine g_ [6] ?_
    refine e_ Tryz.results71 ?_
    first
    | exact True.intro
    | first
      | (simp only [cut_isNum, GI.ok, GI.noA, isTwo, *, ↓reduceIte, Bool.false_eq_true, Bool.or_true, Bool.true_or, Bool.or_self, Bool.or_false]; done)
      | (simp only [cut_isNum, GI.ok, GI.noA, isTwo, *, ↓reduceIte, Bool.false_eq_true, Bool.or_true, Bool.true_or, Bool.or_self, Bool.or_false]; ac_rfl; done)
      | (exfalso; simp_all; done)
  refine g_ [1,2,3,7,13,72] ?_
  refine c_ (fun hc8 => ?_) fun hc8 => ?_
  ·
    refine gD_ [6] ?_
    refine e_ Tryz.results71 ?_
    first
    | exact True.intro
    | first
      | (simp only [cut_isNum, GI.ok, GI.noA, isTwo, *, ↓reduceIte, Bool.false_eq_true, Bool.or_true, Bool.true_or, Bool.or_self, Bool.or_false]; done)
      | (simp only [cut_isNum, GI.ok, GI.noA, isTwo, *, ↓reduceIte, Bool.false_eq_true, Bool.or_true, Bool.true_or, Bool.or_self, Bool.or_false]; ac_rfl; done)
      | (exfalso; simp_all; done)
  refine g_ [1,3,7,88] ?_
  refine c_ (fun hc9 => ?_) fun hc9 => ?_
  ·
    refine gD_ [6] ?_
    refine e_ Tryz.results71 ?_
    first
    | exact True.intro
    | first
      | (simp only [cut_isNum, GI.ok, GI.noA, isTwo, *, ↓reduceIte, Bool.false_eq_true, Bool.or_true, Bool.true_or, Bool.or_self, Bool.or_false]; done)
      | (simp only [cut_isNum, GI.ok, GI.noA, isTwo, *, ↓reduceIte, Bool.false_eq_true, Bool.or_true, Bool.true_or, Bool.or_self, Bool.or_false]; ac_rfl; done)
      | (exfalso; simp_all; done)
  refine g_ [6] ?_
  refine e_ Tryz.results71 ?_
  first
  | exact True.intro
  | first
    | (simp only [cut_isNum, GI.ok, GI.noA, isTwo, *, ↓reduceIte, Bool.false_eq_true, Bool.or_true, Bool.true_or, Bool.or_self, Bool.or_false]; done)
    | (simp only [cut_isNum, GI.ok, GI.noA, isTwo, *, ↓reduceIte, Bool.false_eq_true, Bool.or_true, Bool.true_or, Bool.or_self, Bool.or_false]; ac_rfl; done)
    | (exfalso; simp_all; done)
def sN (i : GI) (L : List Int) (k : Nat) : Int := L.getD k 0 + i.by'
def sTo (i : GI) (k : Nat) : Int := if i.goes then i.n else (k : Int) + 1
def sbad0 (i : GI) (L : List Int) (k : Nat) : Bool := decide (L.getD k 0 < i.takes) || decide (sN i L k > 12)
def sbad1 (L : List Int) (k : Nat) (to n : Int) : Bool := decide (to ≤ k) && L.getD to.toNat 0 != n || decide (to > k) && decide (L.getD to.toNat 0 ≥ 0) && L.getD to.toNat 0 != n
def sstep (i : GI) (L : List Int) (k : Nat) : Option (List Int) :=
  if sbad0 i L k then none
  else if sbad1 L k (sTo i k) (sN i L k) then none
  else if i.op == 7 || i.op == 8 then some (L.set (sTo i k).toNat (sN i L k))
  else if decide ((L.set (sTo i k).toNat (sN i L k)).getD (k + 1) 0 ≥ 0) && (L.set (sTo i k).toNat (sN i L k)).getD (k + 1) 0 != sN i L k then none
  else some ((L.set (sTo i k).toNat (sN i L k)).set (k + 1) (sN i L k))
def srun (p : List GI) : Nat → Option (List Int)
  | 0 => some ((List.replicate (p.length + 1) (-1)).set 0 0)
  | k + 1 => match srun p k with
    | some L => sstep (p.getD k default) L k
    | none => none
theorem srun_none {p : List GI} {k : Nat} (h : srun p k = none) : ∀ n, srun p (k + n) = none
  | 0 => h
  | n + 1 => by rw [← Nat.add_assoc, srun, srun_none h n]
def sdep (p : List GI) : List Int := (srun p p.length).getD []
theorem getD_set' (L : List Int) (a b : Nat) (v : Int) (h : a < L.length) : (L.set a v).getD b 0 = if a = b then v else L.getD b 0 := by
  simp only [List.getD_eq_getElem?_getD, List.getElem?_set]
  by_cases hab : a = b
  · subst hab; simp [h]
  · simp [hab]
theorem tell_hit {L : List Int} {a : Nat} {t : Int} (ha : a < L.length) (h : tellB L a t = true) : tellL L a t = L.set a t := by
  unfold tellB at h
  unfold tellL at h ⊢
  split
  · rfl
  · rename_i hn
    rw [if_neg hn] at h
    have := eq_of_beq h
    rw [← this]
    simp [List.getD_eq_getElem?_getD, ha]
theorem tell_bad {L : List Int} {a : Nat} {t : Int} (ha : a < L.length) : tellB L a t = (L.getD a 0 == -1 || L.getD a 0 == t) := by
  unfold tellB tellL
  split
  · rename_i h
    rw [getD_set' L a a t ha, if_pos rfl, h]; simp
  · rename_i h
    rw [Bool.not_eq_true] at h
    rw [h, Bool.false_or]
theorem sbad_tell {L : List Int} {k : Nat} {to t : Int} (hto : to.toNat < L.length) (hb : -1 ≤ L.getD to.toNat 0) (hv : to ≤ k → 0 ≤ L.getD to.toNat 0) : sbad1 L k to t = !tellB L to.toNat t := by
  rw [tell_bad hto]
  unfold sbad1
  generalize L.getD to.toNat 0 = v at *
  rw [Bool.eq_iff_iff]
  simp only [Bool.or_eq_true, Bool.and_eq_true, decide_eq_true_eq, bne_iff_ne, Bool.not_eq_true', Bool.or_eq_false_iff, beq_eq_false_iff_ne]
  omega
theorem sstep_eq {i : GI} {L : List Int} {k N : Nat} (hok : i.ok k N = true) (hk : k < N) (hl : L.length = N + 1) (hb : ∀ j, -1 ≤ L.getD j 0) (hv : ∀ j, j < k → 0 ≤ L.getD j 0) : sstep i L k = stepI i N L k := by
  have htk := takes_in i
  have hgv := gives_in i
  have ht : sN i L k = tD i L k := by unfold sN GI.by' tD; omega
  by_cases h1 : L.getD k 0 < i.takes
  · rw [sstep, if_pos (by rw [sbad0, decide_eq_true h1, Bool.true_or]), stepI, if_pos (by rw [bad0D, decide_eq_true h1, Bool.or_true])]
  have hp0 : bad0D i N L k = false := by
    rw [bad0D, hok, decide_eq_false h1, beq_eq_false_iff_ne.2 (by omega)]; rfl
  rw [stepI, if_neg (by rw [hp0]; exact Bool.false_ne_true)]
  by_cases h2 : tD i L k > 12
  · rw [sstep, if_pos (by rw [sbad0, ht, decide_eq_true h2, Bool.or_true]), if_pos (by rw [bad2D, bad1D, decide_eq_true h2]; rfl)]
  have hs0 : sbad0 i L k = false := by rw [sbad0, ht, decide_eq_false h1, decide_eq_false h2]; rfl
  have htp : 0 ≤ tD i L k := by unfold tD; omega
  rw [sstep, if_neg (by rw [hs0]; exact Bool.false_ne_true), ht]
  have hfol : i.follows = !(i.op == 7 || i.op == 8) := by unfold GI.follows; rw [Bool.not_or]; rfl
  have hk1 : k + 1 < L.length := by omega
  cases hg : i.goes
  · have h78 : (i.op == 7 || i.op == 8) = false := by
      unfold GI.goes at hg
      simp only [Bool.or_eq_false_iff] at hg ⊢
      exact ⟨hg.1.2, hg.2⟩
    have hf : i.follows = true := by rw [hfol, h78]; rfl
    have hto : sTo i k = (k : Int) + 1 := by rw [sTo, hg]; rfl
    have hn : ((k : Int) + 1).toNat = k + 1 := by omega
    have hsb : sbad1 L k ((k : Int) + 1) (tD i L k) = !tellB L (k + 1) (tD i L k) := by
      have := sbad_tell (L := L) (k := k) (to := (k : Int) + 1) (t := tD i L k) (by rw [hn]; exact hk1) (by rw [hn]; exact hb _) (fun h => by omega)
      rw [hn] at this; exact this
    have hL1 : L1D i L (tD i L k) = L := by rw [L1D, hg, Bool.and_false, if_neg Bool.false_ne_true]
    have hb1 : bad1D i L (tD i L k) = false := by rw [bad1D, hg, decide_eq_false h2]; rfl
    rw [hto, hsb, hn, bad2D, hb1, hf, hL1, h78]
    cases hB : tellB L (k + 1) (tD i L k)
    · rfl
    · have e2 : L2D i L k (tD i L k) = L.set (k + 1) (tD i L k) := by
        rw [L2D, hb1, hf, hL1, if_pos (show (!false && true) = true from rfl)]; exact tell_hit hk1 hB
      have e3 : (L.set (k + 1) (tD i L k)).getD (k + 1) 0 = tD i L k := by rw [getD_set' L _ _ _ hk1, if_pos rfl]
      rw [e2, e3, bne_self_eq_false, Bool.and_false, List.set_set]
      rfl
  · obtain ⟨hn0, hn1⟩ := goes_in hk hok hg
    have hnl : i.n.toNat < L.length := by omega
    have hto : sTo i k = i.n := by rw [sTo, hg]; rfl
    have hsb : sbad1 L k i.n (tD i L k) = !tellB L i.n.toNat (tD i L k) := sbad_tell hnl (hb _) (fun h => by
      by_cases h3 : i.n.toNat < k
      · exact hv _ h3
      · have : i.n.toNat = k := by omega
        rw [this]; omega)
    rw [hto, hsb]
    cases hB : tellB L i.n.toNat (tD i L k)
    · rw [bad2D, bad1D, hg, hB, Bool.not_false, if_pos rfl, if_pos]
      cases decide (tD i L k > 12) <;> rfl
    · have hL1 : L1D i L (tD i L k) = L.set i.n.toNat (tD i L k) := by rw [L1D, hg, decide_eq_false h2, if_pos (show (!false && true) = true from rfl), tell_hit hnl hB]
      have hb1 : bad1D i L (tD i L k) = false := by rw [bad1D, hg, hB, decide_eq_false h2]; rfl
      rw [bad2D, hb1, hL1, Bool.not_true, if_neg Bool.false_ne_true]
      cases h78 : (i.op == 7 || i.op == 8)
      · have hf : i.follows = true := by rw [hfol, h78]; rfl
        have hl1 : k + 1 < (L.set i.n.toNat (tD i L k)).length := by rw [List.length_set]; exact hk1
        have hvv : -1 ≤ (L.set i.n.toNat (tD i L k)).getD (k + 1) 0 := by
          rw [getD_set' _ _ _ _ hnl]
          split
          · omega
          · exact hb _
        have hc : (decide ((L.set i.n.toNat (tD i L k)).getD (k + 1) 0 ≥ 0) && (L.set i.n.toNat (tD i L k)).getD (k + 1) 0 != tD i L k) = !tellB (L.set i.n.toNat (tD i L k)) (k + 1) (tD i L k) := by
          rw [tell_bad hl1]
          generalize (L.set i.n.toNat (tD i L k)).getD (k + 1) 0 = v at *
          rw [Bool.eq_iff_iff]
          simp only [Bool.and_eq_true, decide_eq_true_eq, bne_iff_ne, Bool.not_eq_true', Bool.or_eq_false_iff, beq_eq_false_iff_ne]
          omega
        rw [hc, hf, if_neg Bool.false_ne_true]
        cases hB2 : tellB (L.set i.n.toNat (tD i L k)) (k + 1) (tD i L k)
        · rfl
        · have e2 : L2D i L k (tD i L k) = (L.set i.n.toNat (tD i L k)).set (k + 1) (tD i L k) := by
            rw [L2D, hb1, hf, hL1, if_pos (show (!false && true) = true from rfl)]; exact tell_hit hl1 hB2
          rw [e2]; rfl
      · have hf : i.follows = false := by rw [hfol, h78]; rfl
        have e2 : L2D i L k (tD i L k) = L.set i.n.toNat (tD i L k) := by
          rw [L2D, hb1, hf, hL1, if_neg]; exact Bool.false_ne_true
        rw [e2, hf, if_pos rfl]; rfl
theorem runD_bnd {p : List GI} : ∀ (k : Nat) (L : List Int), runD' p k = some L → Bnd L
  | 0, L, h => by
    injection h with h
    subst h
    exact Bnd.first _
  | k + 1, L, h => by
    unfold runD' at h
    split at h
    · rename_i L0 h0
      have hb := runD_bnd k L0 h0
      unfold stepD stepI at h
      split at h
      · cases h
      · rename_i hb0
        split at h
        · cases h
        · rename_i hb2
          injection h with h
          subst h
          have h1 := takes_in (p.getD k default)
          have h2 := gives_in (p.getD k default)
          simp only [bad0D, Bool.or_eq_true, decide_eq_true_eq, not_or] at hb0
          simp only [bad2D, bad1D, Bool.or_eq_true, decide_eq_true_eq, not_or] at hb2
          have h3 := hb0.2
          have h4 := hb2.1.1
          exact hb.l2 (by unfold tD; omega) (by omega)
    · cases h
def AllOk (p : List GI) : Prop := ∀ j, j < p.length → (p.getD j default).ok j p.length = true
theorem srun_eq {p : List GI} (hok : AllOk p) : ∀ k, k ≤ p.length → srun p k = runD' p k
  | 0, _ => rfl
  | k + 1, hk => by
    rw [srun, runD', srun_eq hok k (by omega)]
    cases h : runD' p k with
    | none => rfl
    | some L =>
      obtain ⟨a, b, c⟩ := runD_at _ _ h
      have hb := runD_bnd _ _ h
      exact sstep_eq (hok k (by omega)) (by omega) a (fun j => (hb j).1) (fun j hj => by
        have h1 := takes_in (p.getD j default)
        have := (c j hj).tk
        omega)
theorem sdep_eq {p : List GI} (hok : AllOk p) (hn : p.length ≤ 400) : sdep p = (depV p).1 := by
  rw [sdep, srun_eq hok _ (Nat.le_refl _), depV, depthsF, if_neg (by omega)]
  cases runD' p p.length <;> rfl
theorem okC_long {p : List GI} (hn : 400 < p.length) : okC p = false := by
  rw [okC, depV, depthsF, if_pos (by omega)]
theorem okC_bad {p : List GI} {k : Nat} (hk : k < p.length) (h : (p.getD k default).ok k p.length = false) : okC p = false := by
  have h1 : runD' p (k + 1) = none := by
    unfold runD'
    cases runD' p k with
    | none => rfl
    | some L =>
      show stepD p L k = none
      rw [stepD, stepI, if_pos]
      rw [bad0D, h]; rfl
  have h2 := runD_none h1 (p.length - (k + 1))
  rw [show k + 1 + (p.length - (k + 1)) = p.length from by omega] at h2
  rw [okC, depV, depthsF]
  split <;> simp_all
theorem okC_all {p : List GI} (hok : AllOk p) (hn : p.length ≤ 400) : okC p = (((sdep p).length : Int) == (p.length : Int) + 1 && (sdep p).getD p.length 0 == 0) := by
  rw [sdep, srun_eq hok _ (Nat.le_refl _), okC, depV, depthsF, if_neg (by omega)]
  cases h : runD' p p.length with
  | none =>
    have : ((([] : List Int).length : Nat) : Int) ≠ (p.length : Int) + 1 := by simp; omega
    show false = ((([] : List Int).length : Int) == (p.length : Int) + 1 && _)
    rw [beq_eq_false_iff_ne.2 this]; rfl
  | some L =>
    obtain ⟨a, b, c⟩ := runD_at _ _ h
    show (L.getD p.length 0 == 0) = (((L.length : Nat) : Int) == (p.length : Int) + 1 && _)
    rw [a, beq_iff_eq.2 (by omega : ((p.length + 1 : Nat) : Int) = (p.length : Int) + 1)]
    rfl
def mx0 (l : List Int) : Nat → Int
  | 0 => 0
  | i + 1 => max (mx0 l i) (l.getD i 0)
theorem mx0_eq {l : List Int} (h : l.getD 0 0 = 0) : ∀ n, mx0 l n = mxI l n
  | 0 => by rw [mx0, mxI, h]
  | n + 1 => by
    rw [mx0, mxI, mx0_eq h n]
    split <;> omega
theorem depC_ok {p : List GI} (h : okC p = true) : depC p = mx0 (sdep p) (sdep p).length := by
  have hok : AllOk p := fun j hj => by
    cases hj2 : (p.getD j default).ok j p.length
    · rw [okC_bad hj hj2] at h; cases h
    · rfl
  have hn : p.length ≤ 400 := by
    by_cases hn : p.length ≤ 400
    · exact hn
    · rw [okC_long (by omega)] at h; cases h
  obtain ⟨hD, hl⟩ := okC_dep h
  have h2 : (depV p).2 = true := h
  rw [depC, h2, if_pos rfl, sdep_eq hok hn, mx0_eq hD.z]
theorem okC_AllOk {p : List GI} (h : okC p = true) : AllOk p := fun j hj => by
  cases hj2 : (p.getD j default).ok j p.length
  · rw [okC_bad hj hj2] at h; cases h
  · rfl
theorem okC_len {p : List GI} (h : okC p = true) : p.length ≤ 400 := by
  by_cases hn : p.length ≤ 400
  · exact hn
  · rw [okC_long (by omega)] at h; cases h
theorem depC_no {p : List GI} (h : okC p = false) : depC p = -1 := by
  have h2 : (depV p).2 = false := h
  rw [depC, h2]; rfl
end Go.Proofs.YtmicbfojofcigaaGreat
namespace Go.Proofs.YtmicbfojofcigaaGreat
open Go Sg
set_option maxRecDepth 100000
set_option linter.unusedSimpArgs false
set_option linter.unusedVariables false
set_option linter.unusedSectionVars false
set_option maxHeartbeats 4000000
variable [Tab]
theorem sbad_L {p : List GI} {k : Nat} (hok : AllOk p) (hk : k < p.length) {L : List Int} (h : srun p k = some L) : L.length = p.length + 1 ∧ Bnd L ∧ ∀ L', sstep (p.getD k default) L k = some L' → Bnd L' := by
  have h2 := h
  rw [srun_eq hok k (by omega)] at h
  obtain ⟨a, b, c⟩ := runD_at _ _ h
  refine ⟨a, runD_bnd _ _ h, fun L' h' => ?_⟩
  have : srun p (k + 1) = some L' := by rw [srun, h2]; exact h'
  rw [srun_eq hok (k + 1) (by omega)] at this
  exact runD_bnd _ _ this
theorem first_eq {L : List Int} {n : Nat} (hl : L.length = n + 1) (h0 : L.getD 0 0 = 0) (h : ∀ j, 1 ≤ j → j < n + 1 → L.getD j 0 = -1) : L = (List.replicate (n + 1) (-1)).set 0 0 := by
  apply List.ext_getElem
  · simp [hl]
  · intro j h1 h2
    have e : L[j] = L.getD j 0 := by simp [List.getD_eq_getElem?_getD, h1]
    rw [e, List.getElem_set]
    split
    · rename_i hj; rw [← hj, h0]
    · rw [h j (by omega) (by omega)]; simp
theorem sdep_no {p : List GI} {i : Nat} (hi : i < p.length) (h : srun p (i + 1) = none) : sdep p = [] := by
  have := srun_none h (p.length - (i + 1))
  rw [show i + 1 + (p.length - (i + 1)) = p.length by omega] at this
  rw [sdep, this]; rfl
theorem sdepths_ok (p : List GI) (hok : AllOk p) (hn : p.length ≤ 400) : PureF Tryz.prog 39 [.rows 110 (insR p)] [.rows 3 (rowsI (sdep p))] := by
  refine pureF_of Tryz.func39 rfl Tryz.ntmps39 (by simp) T_ ?_
  intro f0 B Q hQ
  refine g_ [0] ?_
  refine g_ [0,3] ?_
  rw [show (((p.length : Nat) : Int) + 1).toNat = p.length + 1 from by omega]
  have hZl : (List.replicate (p.length + 1) (0 : Int)).length = p.length + 1 := by simp
  have hZ0 : (List.replicate (p.length + 1) (0 : Int)).getD 0 0 = 0 := by simp [List.getD]
  generalize List.replicate (p.length + 1) (0 : Int) = Z at *
  refine g_ [0,3,4] ?_
  refine n_ ?_
  refine wpM_loopS (fun q n s' => ∃ (i : Nat) (L : List Int), 1 ≤ i ∧ i + n = p.length + 1 ∧ L.length = p.length + 1 ∧ L.getD 0 0 = 0 ∧ (∀ j, 1 ≤ j → j < i → L.getD j 0 = -1) ∧ s' = { q with env := setE 4 (.int .i64 (i : Nat)) q.env, l := [(B, .cells 3 (ints L))] }) (p.length) ?_ ?_
  ·
    refine .of' _ _ ⟨1, Z, Nat.le_refl _, by omega, hZl, hZ0, fun j h1 h2 => by omega, rfl⟩ ?_ ?_ ?_
    all_goals exact L_
  rintro n s' ⟨i, L, hi1, hi, hL, hL0, hLj, rfl⟩
  try refine S_ ?_
  refine g_ [0,3,4,17] ?_
  refine c_ (fun hc0 => ?_) fun hc0 => ?_
  ·
    have hi2 : i < L.length := by omega
    refine g_ [0,3,4] ?_
    refine g_ [0,3,4] ?_
    refine .of' _ _ ⟨n - 1, by omega, i + 1, L.set i (-1), by omega, by omega, by simp [hL], by rw [getD_set' L i 0 _ hi2, if_neg (by omega)]; exact hL0, fun j h1 h2 => ?_, rfl⟩ ?_ ?_ ?_
    · rw [getD_set' L i j _ hi2]
      split
      · rfl
      · exact hLj j h1 (by omega)
    all_goals exact L_
  refine n_ ?_
  have hL2 : L = (List.replicate (p.length + 1) (-1)).set 0 0 := first_eq hL hL0 (fun j h1 h2 => hLj j h1 (by omega))
  refine g_ [0,3,5] ?_
  refine n_ ?_
  refine wpM_loopS (fun q n s' => ∃ (i : Nat) (L : List Int), i + n = p.length ∧ srun p i = some L ∧ s' = { q with env := setE 5 (.int .i64 (i : Nat)) q.env, l := [(B, .cells 3 (ints L))] }) (p.length) ?_ ?_
  ·
    refine .of' _ _ ⟨0, L, by omega, by rw [hL2]; rfl, rfl⟩ ?_ ?_ ?_
    all_goals exact L_
  rintro n s' ⟨i, L, hi, hrun, rfl⟩
  try refine S_ ?_
  refine g_ [0,3,5,26] ?_
  refine c_ (fun hc1 => ?_) fun hc1 => ?_
  ·
    have hi2 : i < p.length := by omega
    obtain ⟨hl, hbn, hnx⟩ := sbad_L hok hi2 hrun
    have hst : srun p (i + 1) = sstep (p.getD i default) L i := by rw [srun, hrun]
    have hio := hok i hi2
    have hgo := fun h => goes_in hi2 hio h
    have htk := takes_in (p.getD i default)
    have hgv := gives_in (p.getD i default)
    have hbi := hbn i
    have hby : (p.getD i default).by' = (p.getD i default).gives - (p.getD i default).takes := rfl
    refine n_ ?_
    refine wpM_regionK [0,3,5,6,7] rfl fun Q1 hQ1 => ?_
    refine S_ ?_
    refine cp_ (sturn_ok (p.getD i default)) Tryz.call72 ?_
    refine hQ1 _ _ (S_ ?_);clear hQ1 Q1
    refine gD_ [0,3,5,6,51] ?_
    refine c_ (fun hc2 => ?_) fun hc2 => ?_
    ·
      have hcs : sdep p = [] := sdep_no hi2 (by rw [hst, sstep, if_pos (show sbad0 (p.getD i default) L i = true from hc2)])
      refine g_ [2] ?_
      refine wpM_le [(2, .rows 3 [])] [] T_ T_ T_ ?_
      refine e_ Tryz.results39 ?_
      first
      | exact True.intro
      | rw [hcs]
        try rfl
    have hb0 : ¬ sbad0 (p.getD i default) L i = true := by rw [show sbad0 (p.getD i default) L i = false from hc2]; exact Bool.false_ne_true
    refine g_ [0,3,5,8] ?_
    refine g_ [0,3,5,8,9] ?_
    refine n_ ?_
    refine wpM_regionK [0,3,5,8,9,64] rfl fun Q1 hQ1 => ?_
    refine S_ ?_
    refine cp_ (sjumps_ok (p.getD i default)) Tryz.call73 ?_
    refine hQ1 _ _ (S_ ?_);clear hQ1 Q1
    refine c_ (fun hc3 => ?_) fun hc3 => ?_
    ·
      have hg3 := hgo hc3
      have hto : sTo (p.getD i default) i = (p.getD i default).n := by rw [sTo, if_pos hc3]
      refine g_ [0,3,5,8,9] ?_
      refine gD_ [0,3,5,8,9,100] ?_
      refine c_ (fun hc4 => ?_) fun hc4 => ?_
      ·
        have hcs : sdep p = [] := sdep_no hi2 (by rw [hst, sstep, if_neg hb0, if_pos (show sbad1 L i (sTo (p.getD i default) i) (sN (p.getD i default) L i) = true from by rw [hto]; exact hc4)])
        refine g_ [2] ?_
        refine wpM_le [(2, .rows 3 [])] [] T_ T_ T_ ?_
        refine e_ Tryz.results39 ?_
        first
        | exact True.intro
        | rw [hcs]
          try rfl
      have hb1 : ¬ sbad1 L i (sTo (p.getD i default) i) (sN (p.getD i default) L i) = true := by rw [hto, show sbad1 L i (p.getD i default).n (sN (p.getD i default) L i) = false from hc4]; exact Bool.false_ne_true
      refine g_ [0,3,5,8] ?_
      refine n_ ?_
      generalize hL1 : List.set L _ (L.getD i 0 + (p.getD i default).by') = L1
      have hl1 : L1.length = p.length + 1 := by rw [← hL1, List.length_set]; exact hl
      have hL2 : L.set (sTo (p.getD i default) i).toNat (sN (p.getD i default) L i) = L1 := by rw [hto]; first | exact hL1 | (rw [hto2]; exact hL1)
      refine gD_ [0,3,5,8,118] ?_
      refine c_ (fun hc5 => ?_) fun hc5 => ?_
      ·
        have hrn : srun p (i + 1) = some L1 := by rw [hst, sstep, if_neg hb0, if_neg hb1, if_pos hc5, hL2]
        refine g_ [0,3,5] ?_
        refine .of' _ _ ⟨n - 1, by omega, i + 1, _, by omega, hrn, rfl⟩ ?_ ?_ ?_
        all_goals exact L_
      refine gD_ [0,3,5,8,133] ?_
      refine c_ (fun hc6 => ?_) fun hc6 => ?_
      ·
        have hcs : sdep p = [] := sdep_no hi2 (by rw [hst, sstep, if_neg hb0, if_neg hb1, if_neg (by rw [hc5]; exact Bool.false_ne_true), hL2, if_pos (show (decide (L1.getD (i + 1) 0 ≥ 0) && L1.getD (i + 1) 0 != sN (p.getD i default) L i) = true from hc6)])
        refine g_ [2] ?_
        refine wpM_le [(2, .rows 3 [])] [] T_ T_ T_ ?_
        refine e_ Tryz.results39 ?_
        first
        | exact True.intro
        | rw [hcs]
          try rfl
      have hrn : srun p (i + 1) = some (L1.set (i + 1) (L.getD i 0 + (p.getD i default).by')) := by rw [hst, sstep, if_neg hb0, if_neg hb1, if_neg (by rw [hc5]; exact Bool.false_ne_true), hL2, if_neg (by rw [show (decide (L1.getD (i + 1) 0 ≥ 0) && L1.getD (i + 1) 0 != sN (p.getD i default) L i) = false from hc6]; exact Bool.false_ne_true)]; rfl
      refine g_ [0,3,5] ?_
      refine g_ [0,3,5] ?_
      refine .of' _ _ ⟨n - 1, by omega, i + 1, _, by omega, hrn, rfl⟩ ?_ ?_ ?_
      all_goals exact L_
    have hto : sTo (p.getD i default) i = ((i : Nat) : Int) + 1 := by rw [sTo, if_neg (by rw [hc3]; exact Bool.false_ne_true)]
    have hto2 : (((i : Nat) : Int) + 1).toNat = i + 1 := by omega
    refine gD_ [0,3,5,8,9,100] ?_
    refine c_ (fun hc7 => ?_) fun hc7 => ?_
    ·
      have hcs : sdep p = [] := sdep_no hi2 (by rw [hst, sstep, if_neg hb0, if_pos (show sbad1 L i (sTo (p.getD i default) i) (sN (p.getD i default) L i) = true from by rw [hto, sbad1, hto2]; exact hc7)])
      refine g_ [2] ?_
      refine wpM_le [(2, .rows 3 [])] [] T_ T_ T_ ?_
      refine e_ Tryz.results39 ?_
      first
      | exact True.intro
      | rw [hcs]
        try rfl
    have hb1 : ¬ sbad1 L i (sTo (p.getD i default) i) (sN (p.getD i default) L i) = true := by rw [hto, show sbad1 L i ((i : Nat) + 1) (sN (p.getD i default) L i) = false from by rw [sbad1, hto2]; exact hc7]; exact Bool.false_ne_true
    try rw [hto2]
    refine g_ [0,3,5,8] ?_
    refine n_ ?_
    generalize hL1 : List.set L _ (L.getD i 0 + (p.getD i default).by') = L1
    have hl1 : L1.length = p.length + 1 := by rw [← hL1, List.length_set]; exact hl
    have hL2 : L.set (sTo (p.getD i default) i).toNat (sN (p.getD i default) L i) = L1 := by rw [hto]; first | exact hL1 | (rw [hto2]; exact hL1)
    refine gD_ [0,3,5,8,118] ?_
    refine c_ (fun hc8 => ?_) fun hc8 => ?_
    ·
      have hrn : srun p (i + 1) = some L1 := by rw [hst, sstep, if_neg hb0, if_neg hb1, if_pos hc8, hL2]
      refine g_ [0,3,5] ?_
      refine .of' _ _ ⟨n - 1, by omega, i + 1, _, by omega, hrn, rfl⟩ ?_ ?_ ?_
      all_goals exact L_
    refine gD_ [0,3,5,8,133] ?_
    refine c_ (fun hc9 => ?_) fun hc9 => ?_
    ·
      have hcs : sdep p = [] := sdep_no hi2 (by rw [hst, sstep, if_neg hb0, if_neg hb1, if_neg (by rw [hc8]; exact Bool.false_ne_true), hL2, if_pos (show (decide (L1.getD (i + 1) 0 ≥ 0) && L1.getD (i + 1) 0 != sN (p.getD i default) L i) = true from hc9)])
      refine g_ [2] ?_
      refine wpM_le [(2, .rows 3 [])] [] T_ T_ T_ ?_
      refine e_ Tryz.results39 ?_
      first
      | exact True.intro
      | rw [hcs]
        try rfl
    have hrn : srun p (i + 1) = some (L1.set (i + 1) (L.getD i 0 + (p.getD i default).by')) := by rw [hst, sstep, if_neg hb0, if_neg hb1, if_neg (by rw [hc8]; exact Bool.false_ne_true), hL2, if_neg (by rw [show (decide (L1.getD (i + 1) 0 ≥ 0) && L1.getD (i + 1) 0 != sN (p.getD i default) L i) = false from hc9]; exact Bool.false_ne_true)]; rfl
    refine g_ [0,3,5] ?_
    refine g_ [0,3,5] ?_
    refine .of' _ _ ⟨n - 1, by omega, i + 1, _, by omega, hrn, rfl⟩ ?_ ?_ ?_
    all_goals exact L_
  refine n_ ?_
  have hiN : i = p.length := by omega
  obtain ⟨hlN, _⟩ := runD_at _ _ (show runD' p p.length = some L from by rw [← srun_eq hok _ (Nat.le_refl _), ← hiN]; exact hrun)
  have hcs : sdep p = L := by rw [sdep, ← hiN, hrun]; rfl
  refine wpM_frz [B] [(3, B, 0, L.length, rowsI L)] (by intro q hq; simp at hq; subst hq; simp -implicitDefEqProofs (disch := omega) only [go_sem]) (by intro q hq; simp only [List.mem_cons, List.not_mem_nil, or_false] at hq; subst hq; exact ⟨by simp, rowsOf_ints' (T := 3) T_ rfl⟩) ?_
  rw [hlN]
  refine S_ ?_
  refine g_ [2] ?_
  refine e_ Tryz.results39 ?_
  first
  | exact True.intro
  | rw [hcs]
    try rfl
end Go.Proofs.YtmicbfojofcigaaGreat
namespace Go.Proofs.YtmicbfojofcigaaGreat
open Go Sg
set_option maxRecDepth 100000
set_option linter.unusedSimpArgs false
set_option linter.unusedVariables false
set_option linter.unusedSectionVars false
set_option maxHeartbeats 4000000
variable [Tab]
theorem scodeOk_ok (p : List GI) (hp : p.length ≤ 1099511627776) : PureF Tryz.prog 38 [.rows 110 (insR p)] [.bool (okC p)] := by
  refine pureF_of Tryz.func38 rfl Tryz.ntmps38 (by simp) T_ ?_
  intro f0 B Q hQ
  refine g_ [0] ?_
  refine g_ [0,7] ?_
  refine c_ (fun hc0 => ?_) fun hc0 => ?_
  ·
    have hcs : okC p = false := okC_long (by omega)
    refine g_ [2] ?_
    refine e_ Tryz.results38 ?_
    first
    | exact True.intro
    | rw [hcs]
  have hn : p.length ≤ 400 := by
    omega
  refine g_ [0,3] ?_
  refine n_ ?_
  refine wpM_loopS (fun q n s' => ∃ i : Nat, i + n = p.length ∧ (∀ j, j < i → (p.getD j default).ok j p.length = true) ∧ s' = { q with env := setE 3 (.int .i64 (i : Nat)) q.env }) (p.length) ?_ ?_
  ·
    refine .of' _ _ ⟨0, by omega, fun j h => by omega, rfl⟩ ?_ ?_ ?_
    all_goals exact L_
  rintro n s' ⟨i, hi, hall, rfl⟩
  try refine S_ ?_
  refine g_ [0,3,11] ?_
  refine c_ (fun hc1 => ?_) fun hc1 => ?_
  ·
    have hi2 : i < p.length := by omega
    refine n_ ?_
    refine wpM_regionK [0,3,22] rfl fun Q1 hQ1 => ?_
    refine S_ ?_
    refine cp_ (sins_ok (p.getD i default) (i : Nat) (p.length : Nat)) Tryz.call71 ?_
    refine hQ1 _ _ (S_ ?_);clear hQ1 Q1
    refine c_ (fun hc2 => ?_) fun hc2 => ?_
    ·
      have hcs : okC p = false := okC_bad hi2 (by simpa using hc2)
      refine g_ [2] ?_
      refine e_ Tryz.results38 ?_
      first
      | exact True.intro
      | rw [hcs]
    have hoi : (p.getD i default).ok i p.length = true := by simpa using hc2
    refine g_ [0,3] ?_
    refine .of' _ _ ⟨n - 1, by omega, i + 1, by omega, fun j hj => ?_, rfl⟩ ?_ ?_ ?_
    · by_cases hji : j = i
      · subst hji; exact hoi
      · exact hall j (by omega)
    all_goals exact L_
  refine n_ ?_
  have hok : AllOk p := fun j hj => hall j (by omega)
  have hcs := okC_all hok hn
  have hlen : (sdep p).length = 0 ∨ (sdep p).length = p.length + 1 := by
    rw [sdep, srun_eq hok _ (Nat.le_refl _)]
    cases h : runD' p p.length with
    | none => exact .inl rfl
    | some L => exact .inr (runD_at _ _ h).1
  have heq : (((sdep p).length : Int) == (p.length : Int) + 1) = decide ((p.length : Int) < ((sdep p).length : Int)) := by
    rw [Bool.eq_iff_iff, beq_iff_eq, decide_eq_true_eq]; omega
  rw [heq] at hcs
  refine wpM_regionK [0,4] rfl fun Q1 hQ1 => ?_
  refine S_ ?_
  refine cp_ (sdepths_ok p hok hn) Tryz.call39 ?_
  refine hQ1 _ _ (S_ ?_);clear hQ1 Q1
  refine n_ ?_
  refine wpM_regionK [2] rfl fun Q1 hQ1 => ?_
  simp (contextual := true) (maxSteps := 1000000) (implicitDefEqProofs := false) (disch := first | omega | (simp only [decide_eq_true_eq, decide_eq_false_iff_not, Bool.and_eq_true, Bool.or_eq_false_iff, Bool.not_eq_true'] at *; omega)) only [go_sem, heq]
  refine hQ1 _ _ (S_ ?_);clear hQ1 Q1
  refine e_ Tryz.results38 ?_
  first
  | exact True.intro
  | rw [hcs]
theorem scodeDepth_ok (p : List GI) (hp : p.length ≤ 1099511627776) : PureF Tryz.prog 16 [.rows 110 (insR p)] [.int .i64 (depC p)] := by
  refine pureF_of Tryz.func16 rfl Tryz.ntmps16 (by simp) T_ ?_
  intro f0 B Q hQ
  refine g_ [0] ?_
  refine n_ ?_
  refine wpM_regionK [0,8] rfl fun Q1 hQ1 => ?_
  refine S_ ?_
  refine cp_ (scodeOk_ok p hp) Tryz.call38 ?_
  refine hQ1 _ _ (S_ ?_);clear hQ1 Q1
  refine c_ (fun hc0 => ?_) fun hc0 => ?_
  ·
    have hcs : depC p = -1 := depC_no (by simpa using hc0)
    refine g_ [2] ?_
    refine e_ Tryz.results16 ?_
    first
    | exact True.intro
    | rw [hcs]
  have hok0 : okC p = true := by simpa using hc0
  have hcs := depC_ok hok0
  have hok : AllOk p := okC_AllOk hok0
  have hn : p.length ≤ 400 := okC_len hok0
  have hln : (sdep p).length ≤ 401 := by
    rw [sdep_eq hok hn, (okC_dep hok0).2]; omega
  refine n_ ?_
  refine wpM_regionK [3] rfl fun Q1 hQ1 => ?_
  refine S_ ?_
  refine cp_ (sdepths_ok p hok hn) Tryz.call39 ?_
  refine hQ1 _ _ (S_ ?_);clear hQ1 Q1
  refine g_ [3,4] ?_
  refine g_ [3,4,5] ?_
  refine n_ ?_
  refine wpM_loopS (fun q n s' => ∃ i : Nat, i + n = (sdep p).length ∧ s' = { q with env := setE 5 (.int .i64 (i : Nat)) (setE 4 (.int .i64 (mx0 (sdep p) i)) q.env) }) ((sdep p).length) ?_ ?_
  ·
    refine .of' _ _ ⟨0, by omega, rfl⟩ ?_ ?_ ?_
    all_goals exact L_
  rintro n s' ⟨i, hi, rfl⟩
  try refine S_ ?_
  refine g_ [3,4,5,14] ?_
  refine c_ (fun hc1 => ?_) fun hc1 => ?_
  ·
    have hi2 : i < (sdep p).length := by omega
    refine n_ ?_
    refine wpM_regionK [3,4,5] rfl fun Q1 hQ1 => ?_
    refine S_ ?_
    refine cp_ (l1Max_ok (mx0 (sdep p) i) ((sdep p).getD i 0)) Tryz.call40 ?_
    refine hQ1 _ _ (S_ ?_);clear hQ1 Q1
    refine g_ [3,4,5] ?_
    have h1 : max (mx0 (sdep p) i) ((sdep p).getD i 0) = mx0 (sdep p) (i + 1) := rfl
    rw [h1]
    refine .of' _ _ ⟨n - 1, by omega, i + 1, by omega, rfl⟩ ?_ ?_ ?_
    all_goals exact L_
  refine g_ [2] ?_
  refine e_ Tryz.results16 ?_
  first
  | exact True.intro
  | have : i = (sdep p).length := by omega
    rw [hcs, this]
theorem icodeDepth_ok (p : List GI) (hp : p.length ≤ 1000000000) : PureF Tryz.prog 15 [.rows 110 (insR p)] [.int .i64 (depC p)] := by
  refine pureF_of Tryz.func15 rfl Tryz.ntmps15 (by simp) T_ ?_
  intro f0 B Q hQ
  refine g_ [0] ?_
  refine n_ ?_
  refine wpM_regionK [3,4] rfl fun Q1 hQ1 => ?_
  refine S_ ?_
  refine cp_ (depths_ok p (by omega)) Tryz.call36 ?_
  refine hQ1 _ _ (S_ ?_);clear hQ1 Q1
  refine g_ [3,11] ?_
  refine c_ (fun hc0 => ?_) fun hc0 => ?_
  ·
    refine g_ [2] ?_
    refine e_ Tryz.results15 ?_
    first
    | exact True.intro
    | rw [depC, if_neg]
      intro h; rw [h] at hc0; cases hc0
  have hok : okC p = true := by
    show (depV p).2 = true
    simpa using hc0
  have hlen := (okC_dep hok).2
  refine n_ ?_
  refine wpM_regionK [2] rfl fun Q1 hQ1 => ?_
  refine S_ ?_
  refine cp_ (max_ok (depV p).1 (by omega) (by omega)) Tryz.call37 ?_
  refine hQ1 _ _ (S_ ?_);clear hQ1 Q1
  refine e_ Tryz.results15 ?_
  first
  | exact True.intro
  | rw [depC]; exact (if_pos hok).symm
end Go.Proofs.YtmicbfojofcigaaGreat
namespace Go.Proofs.YtmicbfojofcigaaGreat
open Go Sg
set_option maxRecDepth 100000
set_option linter.unusedSimpArgs false
set_option linter.unusedVariables false
set_option linter.unusedSectionVars false
set_option maxHeartbeats 4000000
variable [Tab]
@[go_sem] theorem flat_insC (l : List GI) : PV.flatL (insC l) = true := by
  induction l with
  | nil => rfl
  | cons x l ih => simp only [insC, insR, List.map_cons, List.flatten_cons, GI.cs, List.cons_append, List.nil_append, PV.flatL, PV.flat, Bool.true_and] at ih ⊢; exact ih
theorem insC_split (l : List GI) (k : Nat) (h : k < l.length) (s : GI) : insC (l.set k s) = insC (l.take k) ++ (s.cs ++ insC (l.drop (k + 1))) := by
  rw [List.set_eq_take_append_cons_drop, if_pos h]
  simp [insC, insR]
theorem insC_at (l : List GI) (k : Nat) (h : k < l.length) : insC l = insC (l.take k) ++ ((l.getD k default).cs ++ insC (l.drop (k + 1))) := by
  have e : l.set k (l.getD k default) = l := by simp [List.getD, h]
  rw [← insC_split l k h, e]
theorem insC_splice (l : List GI) (k : Nat) (h : k < l.length) (off : Nat) (v : List PV) (s : GI) (ho : off + v.length ≤ 4) (hs : splice (l.getD k default).cs off v = s.cs) : splice (insC l) (k * 4 + off) v = insC (l.set k s) := by
  have hl : (insC (l.take k)).length = k * 4 := by rw [insC_len, List.length_take, Nat.min_eq_left (by omega)]
  rw [insC_split l k h, ← hs]
  conv => lhs; rw [insC_at l k h, ← hl]
  exact splice_mid _ _ _ _ _ (by simpa [GI.cs] using ho)
theorem insC_take (l : List GI) (k : Nat) (h : k ≤ l.length) : (insC l).take (k * 4) = insC (l.take k) := by
  have e : insC l = insC (l.take k) ++ insC (l.drop k) := by rw [← insC_app, List.take_append_drop]
  rw [e, List.take_append_of_le_length (by rw [insC_len, List.length_take]; omega), List.take_of_length_le (by rw [insC_len, List.length_take]; omega)]
theorem insC_drop (l : List GI) (k : Nat) (h : k ≤ l.length) : (insC l).drop (k * 4) = insC (l.drop k) := by
  have e : insC l = insC (l.take k) ++ insC (l.drop k) := by rw [← insC_app, List.take_append_drop]
  have hl : (insC (l.take k)).length = k * 4 := by rw [insC_len, List.length_take]; omega
  rw [e, ← hl, List.drop_left]
theorem l5Of_sl (z : Nat) (l : List Sm) (d : Nat) (hf : formS d l = true) (hs : Sm.szL l ≤ 1000000000) : CallF Tryz.prog 62 [.sl 45 z 0 l.length, .int .i64 0] [(z, .cells 45 (smc l))] 1 (L5R (Sm.cdL l 0)) := by
  refine CallF.borrowN [(45, z, 0, l.length, Sm.csL l)] ?_ ?_ ?_
  · rintro ns out _ ⟨x, rfl, rfl⟩
    exact ⟨rfl, rfl, rfl, by intro q hq; simp at hq; subst hq; exact flat_insC _⟩
  · intro q hq
    simp only [List.mem_cons, List.not_mem_nil, or_false] at hq
    subst hq
    exact rowsOf_smc (T := 45) (by simp [lk]) rfl
  · have := l5Of_ok _ l d 0 (Nat.le_refl _) hf hs (by omega)
    simp -implicitDefEqProofs (disch := omega) only [go_sem]
    exact this
def CodeP (id : Nat) (bs : List Nat) (q : Int) : Prop :=
  CallF Tryz.prog 35 [.ptr id 0] [(id, rdObj bs q)] 1 (fun ns o => ∃ z l q', ns = [z] ∧ l.length ≤ 200000 ∧ q ≤ q' ∧ q' ≤ q + 60010 ∧ o = { rs := [.sl 110 z 0 l.length], u := [(id, some (rdObj bs q'))], nw := [(z, .cells 110 (insC l))] })
theorem l5Code_ok (id : Nat) (bs : List Nat) (q : Int) (hbs : Bs bs) (hq0 : 0 ≤ q) (hq : q + 60010 ≤ 1000000000000) : CodeP id bs q := by
  refine callF_of' Tryz.func35 rfl Tryz.ntmps35 (by simp) ?_
  intro f0 B ns Q hB hns hQ
  have hid : id < B := hB id (by simp [hasKey, lk])
  obtain ⟨z, rfl⟩ : ∃ z, ns = [z] := by
    match ns, hns with
    | [z], _ => exact ⟨z, rfl⟩
  refine g_ [0] ?_
  refine n_ ?_
  refine wpM_regionK [0,3] rfl fun Q1 hQ1 => ?_
  refine S_ ?_
  refine call_fn (l := [(id, rdObj bs q)]) (first := []) (cap := []) (ps := [.ptr id 0]) (l4Some_ok id bs q hbs (by omega) (by omega)) Tryz.call63 rfl rfl rfl G_ T_ ?_
  rintro out ⟨z', l, q1, ⟨⟩, ⟨hsz, hokl⟩, hqa, hqb, rfl⟩
  refine S_ ?_
  refine call_fn (l := [(B, .cells 45 (smc l))]) (first := []) (cap := []) (ps := [.sl 45 B 0 l.length, .int .i64 0]) (l5Of_sl B l 4 (okS_form hokl).1 (by omega)) Tryz.call62 rfl rfl rfl G_ T_ ?_
  rintro out ⟨z', ⟨⟩, rfl⟩
  refine S_ ?_
  refine hQ1 _ _ (S_ ?_);clear hQ1 Q1
  refine n_ ?_
  have hll : (Sm.cdL l 0).length ≤ 120000 := by have := Sm.cdL_len l 0; omega
  generalize hp : Sm.cdL l 0 = p at *
  refine g_ [0,3,10] ?_
  refine c_ (fun hc0 => ?_) fun hc0 => ?_
  ·
    refine g_ [2] ?_
    refine wpM_ret ?_
    try refine S_ ?_
    refine hQ _ _ (retK [B + 1] [(id, some (rdObj bs (q1)))] [(z, .cells 110 (insC (p)))] rfl rfl rfl (by rw [Tryz.results35] <;> simp (maxSteps := 1000000) -implicitDefEqProofs (disch := omega) only [go_sem] <;> rfl) ?_ ⟨z, p, q1, rfl, by (try simp); omega, by omega, by omega, rfl⟩ ?_ ?_ ?_ ?_ ?_ ?_)
    all_goals (first | (simp -implicitDefEqProofs (disch := omega) only [go_sem, rdObj, List.nodup_cons, List.nodup_nil, true_or, or_true, List.mem_cons, List.not_mem_nil, List.length_set, List.length_append, List.length_take, List.length_drop]; done) | (simp -implicitDefEqProofs (disch := omega) only [go_sem, rdObj, List.nodup_cons, List.nodup_nil, true_or, or_true, List.mem_cons, List.not_mem_nil, List.length_set, List.length_append, List.length_take, List.length_drop]; first | rfl | omega))
  have hl0 : 0 < p.length := by
    rcases Nat.eq_zero_or_pos p.length with h | h
    · simp [h] at hc0
    · exact h
  refine n_ ?_
  refine wpM_regionK [0,3,4] rfl fun Q1 hQ1 => ?_
  refine S_ ?_
  refine call_fn (l := [(id, rdObj bs q1)]) (first := []) (cap := []) (ps := [.ptr id 0, .int .i64 (p.length : Nat)]) (pick_ok id bs q1 p.length hbs (by omega) (by omega) (by omega)) Tryz.call44 rfl rfl rfl G_ T_ ?_
  rintro out ⟨k0, rfl, h01, h02, h03⟩
  refine S_ ?_
  refine hQ1 _ _ (S_ ?_);clear hQ1 Q1
  obtain ⟨k, rfl, hk⟩ : ∃ k : Nat, k0 = (k : Int) ∧ k < p.length := ⟨k0.toNat, by omega, by have := h02 (by omega); omega⟩
  refine n_ ?_
  refine wpM_regionK [0,3,4,17] rfl fun Q1 hQ1 => ?_
  refine S_ ?_
  refine call_fn (l := [(id, rdObj bs (q1 + 1))]) (first := []) (cap := []) (ps := [.ptr id 0, .int .i64 30]) (pick_ok id bs (q1 + 1) 30 hbs (by omega) (by omega) (by omega)) Tryz.call44 rfl rfl rfl G_ T_ ?_
  rintro out ⟨k1, rfl, h11, h12, h13⟩
  refine S_ ?_
  refine hQ1 _ _ (S_ ?_);clear hQ1 Q1
  refine g_ [0,3,4,17,18] ?_
  refine c_ (fun hc1 => ?_) fun hc1 => ?_
  ·
    refine wpM_regionK [3] rfl fun Q1 hQ1 => ?_
    refine S_ ?_
    refine call_fn (l := [(id, rdObj bs (q1 + 1 + 1)), (B + 2, .cells 3 (ints [0, 9, 1, 5, 8]))]) (first := []) (cap := []) (ps := [.ptr id 0, .sl 3 (B + 2) 0 5]) (num_ok id (B + 2) bs (q1 + 1 + 1) [0, 9, 1, 5, 8] 5 rfl (by omega) (by omega) (by omega) hbs (by omega) (by omega)) Tryz.call46 rfl rfl rfl G_ (by simp -implicitDefEqProofs (disch := omega) only [go_sem, ints, List.map_cons, List.map_nil]) ?_
    rintro out ⟨k2, rfl, h4⟩
    refine S_ ?_
    refine hQ1 _ _ (S_ ?_);clear hQ1 Q1
    have hsp := insC_splice p k hk 0 [.int .i64 k2] ⟨k2, (p.getD k default).n, (p.getD k default).a⟩ (by simp) rfl
    rw [Nat.add_zero] at hsp
    rw [hsp, show p.length = (p.set k ⟨k2, (p.getD k default).n, (p.getD k default).a⟩).length from by simp]
    refine g_ [2] ?_
    refine wpM_ret ?_
    try refine S_ ?_
    refine hQ _ _ (retK [B + 1] [(id, some (rdObj bs (q1 + 1 + 1 + 1)))] [(z, .cells 110 (insC (p.set k ⟨k2, (p.getD k default).n, (p.getD k default).a⟩)))] rfl rfl rfl (by rw [Tryz.results35] <;> simp (maxSteps := 1000000) -implicitDefEqProofs (disch := omega) only [go_sem] <;> rfl) ?_ ⟨z, p.set k ⟨k2, (p.getD k default).n, (p.getD k default).a⟩, q1 + 1 + 1 + 1, rfl, by (try simp); omega, by omega, by omega, rfl⟩ ?_ ?_ ?_ ?_ ?_ ?_)
    all_goals (first | (simp -implicitDefEqProofs (disch := omega) only [go_sem, rdObj, List.nodup_cons, List.nodup_nil, true_or, or_true, List.mem_cons, List.not_mem_nil, List.length_set, List.length_append, List.length_take, List.length_drop]; done) | (simp -implicitDefEqProofs (disch := omega) only [go_sem, rdObj, List.nodup_cons, List.nodup_nil, true_or, or_true, List.mem_cons, List.not_mem_nil, List.length_set, List.length_append, List.length_take, List.length_drop]; first | rfl | omega))
  refine g_ [0,3,4,17,27] ?_
  refine c_ (fun hc2 => ?_) fun hc2 => ?_
  ·
    refine wpM_regionK [3] rfl fun Q1 hQ1 => ?_
    refine S_ ?_
    refine call_fn (l := [(id, rdObj bs (q1 + 1 + 1)), (B + 2, .cells 3 (ints [0, -1, (p.length : Nat), (p.length : Nat) + 1, (k : Nat) + 1]))]) (first := []) (cap := []) (ps := [.ptr id 0, .sl 3 (B + 2) 0 5]) (num_ok id (B + 2) bs (q1 + 1 + 1) [0, -1, (p.length : Nat), (p.length : Nat) + 1, (k : Nat) + 1] 5 rfl (by omega) (by omega) (by omega) hbs (by omega) (by omega)) Tryz.call46 rfl rfl rfl G_ (by simp -implicitDefEqProofs (disch := omega) only [go_sem, ints, List.map_cons, List.map_nil]) ?_
    rintro out ⟨k2, rfl, h4⟩
    refine S_ ?_
    refine hQ1 _ _ (S_ ?_);clear hQ1 Q1
    have hsp := insC_splice p k hk 1 [.int .i64 k2] ⟨(p.getD k default).op, k2, (p.getD k default).a⟩ (by simp) rfl
    rw [hsp, show p.length = (p.set k ⟨(p.getD k default).op, k2, (p.getD k default).a⟩).length from by simp]
    refine g_ [2] ?_
    refine wpM_ret ?_
    try refine S_ ?_
    refine hQ _ _ (retK [B + 1] [(id, some (rdObj bs (q1 + 1 + 1 + 1)))] [(z, .cells 110 (insC (p.set k ⟨(p.getD k default).op, k2, (p.getD k default).a⟩)))] rfl rfl rfl (by rw [Tryz.results35] <;> simp (maxSteps := 1000000) -implicitDefEqProofs (disch := omega) only [go_sem] <;> rfl) ?_ ⟨z, p.set k ⟨(p.getD k default).op, k2, (p.getD k default).a⟩, q1 + 1 + 1 + 1, rfl, by (try simp); omega, by omega, by omega, rfl⟩ ?_ ?_ ?_ ?_ ?_ ?_)
    all_goals (first | (simp -implicitDefEqProofs (disch := omega) only [go_sem, rdObj, List.nodup_cons, List.nodup_nil, true_or, or_true, List.mem_cons, List.not_mem_nil, List.length_set, List.length_append, List.length_take, List.length_drop]; done) | (simp -implicitDefEqProofs (disch := omega) only [go_sem, rdObj, List.nodup_cons, List.nodup_nil, true_or, or_true, List.mem_cons, List.not_mem_nil, List.length_set, List.length_append, List.length_take, List.length_drop]; first | rfl | omega))
  refine g_ [0,3,4,17,43] ?_
  refine c_ (fun hc3 => ?_) fun hc3 => ?_
  ·
    by_cases hlt : k + 1 < p.length
    rotate_left
    · have hdr : p.drop (k + 1) = [] := List.drop_of_length_le (by omega)
      have htk : (p.take k).length = k := by rw [List.length_take]; omega
      refine dr_ mixed [3] 1 1 [B + 1, B + 2] [⟨[3],[],[],[],false⟩,⟨[4],[],[],[],false⟩,⟨[45,46],[],[],[],false⟩,⟨[3],[],[],[],false⟩,⟨[4],[],[],[],false⟩,⟨[49],[],[],[],false⟩,⟨[48,50],[],[],[],false⟩,⟨[47,51],[0],[0],[1],false⟩,⟨[52],[],[],[],false⟩] [0,1,2,3,4,5,6,7,8] [[],[],[0,1],[],[],[4],[3,4,5],[0,1,2,3,4,5,6],[0,1,2,3,4,5,6,7]] 2 ?_
      intro O A K hO hA hK;simp only [atL_cons,atL_nil,Nat.reduceAdd,Nat.zero_add] at hO hA
      refine SO_ ?_
      refine hK _ (S_ ?_);clear hK K hO hA O A
      try simp only [List.append_nil, Nat.add_zero]
      rw [insC_take p k (by omega)]
      obtain ⟨tk, htk2⟩ : ∃ tk, tk = p.take k := ⟨_, rfl⟩
      rw [← htk2] at htk ⊢
      rw [show PV.sl 110 (B + 2) 0 k = PV.sl 110 (B + 2) 0 tk.length from by rw [htk]]
      refine g_ [2] ?_
      refine wpM_ret ?_
      try refine S_ ?_
      refine hQ _ _ (retK [B + 2] [(id, some (rdObj bs (q1 + 1 + 1)))] [(z, .cells 110 (insC (tk)))] rfl rfl rfl (by rw [Tryz.results35] <;> simp (maxSteps := 1000000) -implicitDefEqProofs (disch := omega) only [go_sem] <;> rfl) ?_ ⟨z, tk, q1 + 1 + 1, rfl, by omega, by omega, by omega, rfl⟩ ?_ ?_ ?_ ?_ ?_ ?_)
      all_goals (first | (simp -implicitDefEqProofs (disch := omega) only [go_sem, rdObj, List.nodup_cons, List.nodup_nil, true_or, or_true, List.mem_cons, List.not_mem_nil, List.length_set, List.length_append, List.length_take, List.length_drop]; done) | (simp -implicitDefEqProofs (disch := omega) only [go_sem, rdObj, List.nodup_cons, List.nodup_nil, true_or, or_true, List.mem_cons, List.not_mem_nil, List.length_set, List.length_append, List.length_take, List.length_drop]; first | rfl | omega))
    refine dr_ mixed [3] 1 1 [B + 1, B + 2] [⟨[3],[],[],[],false⟩,⟨[4],[],[],[],false⟩,⟨[45,46],[],[],[],false⟩,⟨[3],[],[],[],false⟩,⟨[4],[],[],[],false⟩,⟨[49],[],[],[],false⟩,⟨[48,50],[],[],[],false⟩,⟨[47,51],[0],[0],[1],false⟩,⟨[52],[],[],[],false⟩] [0,1,2,3,4,5,6,7,8] [[],[],[0,1],[],[],[4],[3,4,5],[0,1,2,3,4,5,6],[0,1,2,3,4,5,6,7]] 2 ?_
    intro O A K hO hA hK;simp only [atL_cons,atL_nil,Nat.reduceAdd,Nat.zero_add] at hO hA
    refine SO_ ?_
    refine hK _ (S_ ?_);clear hK K hO hA O A
    obtain ⟨tk, htk⟩ : ∃ tk, tk = p.take k ++ p.drop (k + 1) := ⟨_, rfl⟩
    have htl : tk.length = k + (p.length - (k + 1)) := by (rw [htk]; simp; omega)
    have hkk : (((k : Nat) : Int) + 1).toNat = k + 1 := by omega
    have hcl : List.take (k * 4) (insC p) ++ List.take ((p.length - (((k : Nat) : Int) + 1).toNat) * 4) (List.drop ((((k : Nat) : Int) + 1).toNat * 4) (insC p)) = insC tk := by
      rw [hkk, insC_take p k (by omega), insC_drop p (k + 1) (by omega), List.take_of_length_le (l := insC (List.drop (k + 1) p)) (by rw [insC_len, List.length_drop]; omega), ← insC_app, htk]
    rw [hcl, hkk, ← htl]
    refine g_ [2] ?_
    refine wpM_ret ?_
    try refine S_ ?_
    refine hQ _ _ (retK [B + 2] [(id, some (rdObj bs (q1 + 1 + 1)))] [(z, .cells 110 (insC (tk)))] rfl rfl rfl (by rw [Tryz.results35] <;> simp (maxSteps := 1000000) -implicitDefEqProofs (disch := omega) only [go_sem] <;> rfl) ?_ ⟨z, tk, q1 + 1 + 1, rfl, by omega, by omega, by omega, rfl⟩ ?_ ?_ ?_ ?_ ?_ ?_)
    all_goals (first | (simp -implicitDefEqProofs (disch := omega) only [go_sem, rdObj, List.nodup_cons, List.nodup_nil, true_or, or_true, List.mem_cons, List.not_mem_nil, List.length_set, List.length_append, List.length_take, List.length_drop]; done) | (simp -implicitDefEqProofs (disch := omega) only [go_sem, rdObj, List.nodup_cons, List.nodup_nil, true_or, or_true, List.mem_cons, List.not_mem_nil, List.length_set, List.length_append, List.length_take, List.length_drop]; first | rfl | omega))
  refine g_ [0,3,4,17,53] ?_
  refine c_ (fun hc4 => ?_) fun hc4 => ?_
  ·
    refine wpM_regionK [3] rfl fun Q1 hQ1 => ?_
    refine S_ ?_
    refine call_fn (l := [(id, rdObj bs (q1 + 1 + 1))]) (first := []) (cap := []) (ps := [.ptr id 0]) (l2AddrBent_ok id bs (q1 + 1 + 1) hbs (by omega) (by omega)) Tryz.call54 rfl rfl rfl G_ T_ ?_
    rintro out ⟨_, q2, ⟨a, rfl⟩, hqc, hqd, rfl⟩
    refine S_ ?_
    refine hQ1 _ _ (S_ ?_);clear hQ1 Q1
    have hsp := insC_splice p k hk 2 [.int .i64 a.kind, .int .i64 a.at'] ⟨(p.getD k default).op, (p.getD k default).n, a⟩ (by simp) rfl
    rw [hsp, show p.length = (p.set k ⟨(p.getD k default).op, (p.getD k default).n, a⟩).length from by simp]
    refine g_ [2] ?_
    refine wpM_ret ?_
    try refine S_ ?_
    refine hQ _ _ (retK [B + 1] [(id, some (rdObj bs (q2)))] [(z, .cells 110 (insC (p.set k ⟨(p.getD k default).op, (p.getD k default).n, a⟩)))] rfl rfl rfl (by rw [Tryz.results35] <;> simp (maxSteps := 1000000) -implicitDefEqProofs (disch := omega) only [go_sem] <;> rfl) ?_ ⟨z, p.set k ⟨(p.getD k default).op, (p.getD k default).n, a⟩, q2, rfl, by (try simp); omega, by omega, by omega, rfl⟩ ?_ ?_ ?_ ?_ ?_ ?_)
    all_goals (first | (simp -implicitDefEqProofs (disch := omega) only [go_sem, rdObj, List.nodup_cons, List.nodup_nil, true_or, or_true, List.mem_cons, List.not_mem_nil, List.length_set, List.length_append, List.length_take, List.length_drop]; done) | (simp -implicitDefEqProofs (disch := omega) only [go_sem, rdObj, List.nodup_cons, List.nodup_nil, true_or, or_true, List.mem_cons, List.not_mem_nil, List.length_set, List.length_append, List.length_take, List.length_drop]; first | rfl | omega))
  refine g_ [0,3,61] ?_
  refine c_ (fun hc5 => ?_) fun hc5 => ?_
  ·
    refine wpM_regionK [3] rfl fun Q1 hQ1 => ?_
    refine S_ ?_
    refine call_fn (l := [(id, rdObj bs (q1 + 1 + 1))]) (first := []) (cap := []) (ps := [.ptr id 0, .int .i64 (p.length : Nat)]) (pick_ok id bs (q1 + 1 + 1) p.length hbs (by omega) (by omega) (by omega)) Tryz.call44 rfl rfl rfl G_ T_ ?_
    rintro out ⟨k2, rfl, h04, h05, h06⟩
    refine S_ ?_
    refine hQ1 _ _ (S_ ?_);clear hQ1 Q1
    rw [show p.length + 1 = (p ++ [(⟨8, k2, ⟨0, 0⟩⟩ : GI)]).length from by simp]
    refine g_ [2] ?_
    refine wpM_ret ?_
    try refine S_ ?_
    refine hQ _ _ (retK [B + 3] [(id, some (rdObj bs (q1 + 1 + 1 + 1)))] [(z, .cells 110 (insC (p ++ [⟨8, k2, ⟨0, 0⟩⟩])))] rfl rfl rfl (by rw [Tryz.results35] <;> simp (maxSteps := 1000000) -implicitDefEqProofs (disch := omega) only [go_sem] <;> rfl) ?_ ⟨z, p ++ [⟨8, k2, ⟨0, 0⟩⟩], q1 + 1 + 1 + 1, rfl, by (try simp); omega, by omega, by omega, rfl⟩ ?_ ?_ ?_ ?_ ?_ ?_)
    all_goals (first | (simp -implicitDefEqProofs (disch := omega) only [go_sem, rdObj, List.nodup_cons, List.nodup_nil, true_or, or_true, List.mem_cons, List.not_mem_nil, List.length_set, List.length_append, List.length_take, List.length_drop]; done) | (simp -implicitDefEqProofs (disch := omega) only [go_sem, rdObj, List.nodup_cons, List.nodup_nil, true_or, or_true, List.mem_cons, List.not_mem_nil, List.length_set, List.length_append, List.length_take, List.length_drop]; first | rfl | omega))
  refine g_ [2] ?_
  refine wpM_ret ?_
  try refine S_ ?_
  refine hQ _ _ (retK [B + 1] [(id, some (rdObj bs (q1 + 1 + 1)))] [(z, .cells 110 (insC (p)))] rfl rfl rfl (by rw [Tryz.results35] <;> simp (maxSteps := 1000000) -implicitDefEqProofs (disch := omega) only [go_sem] <;> rfl) ?_ ⟨z, p, q1 + 1 + 1, rfl, by (try simp); omega, by omega, by omega, rfl⟩ ?_ ?_ ?_ ?_ ?_ ?_)
  all_goals (first | (simp -implicitDefEqProofs (disch := omega) only [go_sem, rdObj, List.nodup_cons, List.nodup_nil, true_or, or_true, List.mem_cons, List.not_mem_nil, List.length_set, List.length_append, List.length_take, List.length_drop]; done) | (simp -implicitDefEqProofs (disch := omega) only [go_sem, rdObj, List.nodup_cons, List.nodup_nil, true_or, or_true, List.mem_cons, List.not_mem_nil, List.length_set, List.length_append, List.length_take, List.length_drop]; first | rfl | omega))
theorem drawDepth_ok (code : List Nat) (hcode : ∀ x ∈ code, x < 256) (hl : code.length ≤ 1099511627776) :
    CallF Tryz.prog 14 [.rows 5 (u8s code)] [] 0 (fun _ o => ∃ l : List GI, l.length ≤ 200000 ∧ o = { rs := [.rows 110 (insR l)] }) := by
  refine callF_of' Tryz.func14 rfl Tryz.ntmps14 (by simp) ?_
  intro f0 B ns Q hB hns hQ
  obtain rfl : ns = [] := List.eq_nil_of_length_eq_zero hns
  refine g_ [0] ?_
  refine n_ ?_
  refine wpM_regionK [2] rfl fun Q1 hQ1 => ?_
  refine S_ ?_
  refine call_fn (l := []) (first := []) (cap := []) (ps := [.rows 5 (u8s code)]) (open_ok code hcode hl) Tryz.call20 rfl rfl rfl G_ T_ ?_
  rintro out ⟨j, bs, ⟨⟩, hbs, rfl, hbe⟩
  refine S_ ?_
  refine call_fn (l := [(B, rdObj bs 0)]) (first := []) (cap := []) (ps := [.ptr B 0]) (l5Code_ok B bs 0 hbs (by omega) (by omega)) Tryz.call35 rfl rfl rfl G_ T_ ?_
  rintro out ⟨z', l, q1, ⟨⟩, hsz, hqa, hqb, rfl⟩
  refine S_ ?_
  refine hQ1 _ _ (S_ ?_);clear hQ1 Q1
  refine wpM_frz [B + 1] [(110, B + 1, 0, l.length, insR l)] (by intro q hq; simp at hq; subst hq; simp -implicitDefEqProofs (disch := omega) only [go_sem]) (by intro q hq; simp only [List.mem_cons, List.not_mem_nil, or_false] at hq; subst hq; exact ⟨by simp, rowsOf_insC (T := 110) T_ rfl⟩) ?_
  refine S_ ?_
  refine wpM_ret ?_
  try refine S_ ?_
  refine hQ _ _ (ret0 [] rfl rfl rfl (by rw [Tryz.results14] <;> simp (maxSteps := 1000000) -implicitDefEqProofs (disch := omega) only [go_sem] <;> rfl) ⟨l, hsz, rfl⟩ ?_ ?_ ?_ ?_)
  all_goals simp -implicitDefEqProofs (disch := omega) only [go_sem, rdObj, true_or, or_true]
theorem drawMany_ok (code : List Nat) (hcode : ∀ x ∈ code, x < 256) (hl : code.length ≤ 1099511627776) :
    CallF Tryz.prog 17 [.rows 5 (u8s code)] [] 0 (fun _ o => ∃ e : Ex, e.sz ≤ 1000 ∧ o = { rs := [.agg e.cs] }) := by
  refine callF_of' Tryz.func17 rfl Tryz.ntmps17 (by simp) ?_
  intro f0 B ns Q hB hns hQ
  obtain rfl : ns = [] := List.eq_nil_of_length_eq_zero hns
  refine g_ [0,2] ?_
  refine n_ ?_
  refine wpM_regionK [2] rfl fun Q1 hQ1 => ?_
  refine S_ ?_
  refine call_fn (l := []) (first := []) (cap := []) (ps := [.rows 5 (u8s code)]) (open_ok code hcode hl) Tryz.call20 rfl rfl rfl G_ T_ ?_
  rintro out ⟨j, bs, ⟨⟩, hbs, rfl, hbe⟩
  refine S_ ?_
  refine call_fn (l := [(B + 1, rdObj bs 0)]) (first := []) (cap := []) (ps := [.ptr (B + 1) 0]) (l3Bent_ok (B + 1) bs 0 hbs (by omega) (by omega)) Tryz.call28 rfl rfl rfl G_ T_ ?_
  rintro out ⟨_, q1, ⟨e, hsz, rfl⟩, hqa, hqb, rfl⟩
  refine S_ ?_
  refine hQ1 _ _ (S_ ?_);clear hQ1 Q1
  refine wpM_ret ?_
  try refine S_ ?_
  refine hQ _ _ (ret0 [] rfl rfl rfl (by rw [Tryz.results17] <;> simp (maxSteps := 1000000) -implicitDefEqProofs (disch := omega) only [go_sem] <;> rfl) ⟨e, hsz, by rw [Ex.cs_eq]⟩ ?_ ?_ ?_ ?_)
  all_goals simp -implicitDefEqProofs (disch := omega) only [go_sem, rdObj, true_or, or_true]
end Go.Proofs.YtmicbfojofcigaaGreat
namespace Go.Proofs.YtmicbfojofcigaaGreat
open Go Sg
set_option maxRecDepth 100000
set_option linter.unusedSimpArgs false
set_option linter.unusedVariables false
set_option linter.unusedSectionVars false
set_option maxHeartbeats 4000000
variable [Tab]
def zM : MM := ⟨List.replicate 6 0, List.replicate 6 0, List.replicate 6 0⟩
@[go_sem high] theorem zM_mobj (id : Nat) : mobj id zM = [(id, .cells 104 [.int .i64 0, .int .i64 0, .int .i64 0, .int .i64 0, .int .i64 0, .int .i64 0, .int .i64 0, .int .i64 0, .int .i64 0, .int .i64 0, .int .i64 0, .int .i64 0, .int .i64 0, .int .i64 0, .int .i64 0, .int .i64 0, .int .i64 0, .int .i64 0])] := rfl
end Go.Proofs.YtmicbfojofcigaaGreat
namespace Go.Proofs.YtmicbfojofcigaaGreat
open Go Sg
set_option maxRecDepth 100000
set_option linter.unusedSimpArgs false
set_option linter.unusedVariables false
set_option linter.unusedSectionVars false
set_option maxHeartbeats 4000000
variable [Tab]
end Go.Proofs.YtmicbfojofcigaaGreat
namespace Go.Proofs.YtmicbfojofcigaaGreat
open Go Sg
set_option maxRecDepth 100000
set_option linter.unusedSimpArgs false
set_option linter.unusedVariables false
set_option linter.unusedSectionVars false
set_option maxHeartbeats 4000000
variable [Tab]
end Go.Proofs.YtmicbfojofcigaaGreat
namespace Go.Proofs.YtmicbfojofcigaaGreat
open Go Sg
set_option maxRecDepth 100000
set_option linter.unusedSimpArgs false
set_option linter.unusedVariables false
set_option linter.unusedSectionVars false
set_option maxHeartbeats 4000000
variable [Tab]
end Go.Proofs.YtmicbfojofcigaaGreat
namespace Go.Proofs.YtmicbfojofcigaaGreat
open Go Sg
set_option maxRecDepth 100000
set_option linter.unusedSimpArgs false
set_option linter.unusedVariables false
set_option linter.unusedSectionVars false
set_option maxHeartbeats 4000000
variable [Tab]
end Go.Proofs.YtmicbfojofcigaaGreat
namespace Go.Proofs.YtmicbfojofcigaaGreat
open Go Sg
set_option maxRecDepth 100000
set_option linter.unusedSimpArgs false
set_option linter.unusedVariables false
set_option linter.unusedSectionVars false
set_option maxHeartbeats 4000000
variable [Tab]
end Go.Proofs.YtmicbfojofcigaaGreat
namespace Go.Proofs.YtmicbfojofcigaaGreat
open Go Sg
set_option maxRecDepth 100000
set_option linter.unusedSimpArgs false
set_option linter.unusedVariables false
set_option linter.unusedSectionVars false
set_option maxHeartbeats 4000000
variable [Tab]
end Go.Proofs.YtmicbfojofcigaaGreat
namespace Go.Proofs.YtmicbfojofcigaaGreat
open Go Sg
set_option maxRecDepth 100000
set_option linter.unusedSimpArgs false
set_option linter.unusedVariables false
set_option linter.unusedSectionVars false
set_option maxHeartbeats 4000000
variable [Tab]
@[go_sem] theorem Sm.slL_nil : Sm.slL [] = [] := rfl
end Go.Proofs.YtmicbfojofcigaaGreat
namespace Go.Proofs.YtmicbfojofcigaaGreat
open Go Sg
set_option maxRecDepth 100000
set_option linter.unusedSimpArgs false
set_option linter.unusedVariables false
set_option linter.unusedSectionVars false
set_option maxHeartbeats 4000000
variable [Tab]
theorem Sm.ext' {a b : Sm} (h1 : a.kind = b.kind) (h2 : a.to' = b.to') (h3 : a.e = b.e) (h4 : a.th = b.th) (h5 : a.el = b.el) : a = b := by
  cases a; cases b
  simp only [Sm.kind, Sm.to', Sm.e, Sm.th, Sm.el] at h1 h2 h3 h4 h5
  subst h1; subst h2; subst h3; subst h4; subst h5; rfl
end Go.Proofs.YtmicbfojofcigaaGreat
namespace Go.Proofs.YtmicbfojofcigaaGreat
open Go Sg
set_option maxRecDepth 100000
set_option linter.unusedSimpArgs false
set_option linter.unusedVariables false
set_option linter.unusedSectionVars false
set_option maxHeartbeats 4000000
variable [Tab]
end Go.Proofs.YtmicbfojofcigaaGreat
namespace Go.Proofs.YtmicbfojofcigaaGreat
open Go Sg
set_option maxRecDepth 100000
set_option linter.unusedSimpArgs false
set_option linter.unusedVariables false
set_option linter.unusedSectionVars false
set_option maxHeartbeats 4000000
variable [Tab]
inductive TX where
  | mk (kind n : Int) (a : AD) (id : Nat) (kids : List TX)
  deriving Inhabited
def TX.kind : TX → Int | .mk k _ _ _ _ => k
def TX.n : TX → Int | .mk _ n _ _ _ => n
def TX.a : TX → AD | .mk _ _ a _ _ => a
def TX.id : TX → Nat | .mk _ _ _ i _ => i
def TX.kids : TX → List TX | .mk _ _ _ _ l => l
mutual
def TX.ex : TX → Ex
  | .mk k n a _ l => .mk k n a (TX.exL l)
def TX.exL : List TX → List Ex
  | [] => []
  | t :: l => t.ex :: TX.exL l
end
theorem TX.exL_map (l : List TX) : TX.exL l = l.map TX.ex := by
  induction l with
  | nil => rfl
  | cons e l ih => simp [TX.exL, ih]
def kidV (id n : Nat) : PV := if n = 0 then .emp else .sl 27 id 0 n
def TX.v (t : TX) : List PV := [.int .i64 t.kind, .int .i64 t.n, .int .i64 t.a.kind, .int .i64 t.a.at', kidV t.id t.kids.length]
@[go_sem] theorem TX.v_eq (t : TX) : t.v = [.int .i64 t.kind, .int .i64 t.n, .int .i64 t.a.kind, .int .i64 t.a.at', kidV t.id t.kids.length] := rfl
def TX.vL (l : List TX) : List PV := (l.map TX.v).flatten
mutual
def TX.ob : TX → List (Nat × AObj)
  | .mk _ _ _ id l => (if l.length = 0 then [] else [(id, .cells 27 (TX.vL l))]) ++ TX.obL l
def TX.obL : List TX → List (Nat × AObj)
  | [] => []
  | t :: l => t.ob ++ TX.obL l
end
theorem TX.ob_nil {k n : Int} {a : AD} {id : Nat} : (TX.mk k n a id []).ob = [] := rfl
theorem TX.ob_cons {k n : Int} {a : AD} {id : Nat} {l : List TX} (h : 0 < l.length) : (TX.mk k n a id l).ob = (id, .cells 27 (TX.vL l)) :: TX.obL l := by
  rw [TX.ob, if_neg (by omega)]; rfl
theorem exL_take (l : List TX) (i : Nat) (h : i < l.length) : TX.exL (l.take (i + 1)) = TX.exL (l.take i) ++ [(l.getD i default).ex] := by
  rw [TX.exL_map, TX.exL_map, List.take_succ_eq_append_getElem h, List.map_append]
  simp [List.getD, h]
end Go.Proofs.YtmicbfojofcigaaGreat
namespace Go.Proofs.YtmicbfojofcigaaGreat
open Go Sg
set_option maxRecDepth 100000
set_option linter.unusedSimpArgs false
set_option linter.unusedVariables false
set_option linter.unusedSectionVars false
set_option maxHeartbeats 4000000
variable [Tab]
theorem slimN_mk (k n : Int) (a : AD) (L : List Ex) : slimN (Ex.mk k n a L) = if (k == 10 && (L.getD 0 default).kind == 1) = true then numX (numIs (!((L.getD 0 default).n != 0))) else if ((L.length : Int) == 2) = true then slim2 (Ex.mk k n a L) (L.getD 0 default) (L.getD 1 default) else Ex.mk k n a L := rfl
end Go.Proofs.YtmicbfojofcigaaGreat
namespace Go.Proofs.YtmicbfojofcigaaGreat
open Go Sg
set_option maxRecDepth 100000
set_option linter.unusedSimpArgs false
set_option linter.unusedVariables false
set_option linter.unusedSectionVars false
set_option maxHeartbeats 4000000
variable [Tab]
mutual
def TX.ren (ρ : Nat → Nat) : TX → TX
  | .mk k n a id l => .mk k n a (ρ id) (TX.renL ρ l)
def TX.renL (ρ : Nat → Nat) : List TX → List TX
  | [] => []
  | t :: l => t.ren ρ :: TX.renL ρ l
end
theorem TX.renL_map (ρ : Nat → Nat) (l : List TX) : TX.renL ρ l = l.map (TX.ren ρ) := by
  induction l with
  | nil => rfl
  | cons e l ih => simp [TX.renL, ih]
theorem TX.renL_len (ρ : Nat → Nat) (l : List TX) : (TX.renL ρ l).length = l.length := by rw [TX.renL_map, List.length_map]
mutual
theorem TX.ren_ex (ρ : Nat → Nat) : (t : TX) → (t.ren ρ).ex = t.ex
  | .mk k n a id l => by rw [TX.ren, TX.ex, TX.ex, TX.renL_ex ρ l]
theorem TX.renL_ex (ρ : Nat → Nat) : (l : List TX) → TX.exL (TX.renL ρ l) = TX.exL l
  | [] => rfl
  | t :: l => by rw [TX.renL, TX.exL, TX.exL, TX.ren_ex ρ t, TX.renL_ex ρ l]
end
theorem kidV_ren (ρ : Nat → Nat) (id n : Nat) : (kidV id n).ren ρ = kidV (ρ id) n := by
  unfold kidV; split <;> rfl
theorem TX.ren_v (ρ : Nat → Nat) (t : TX) : PV.renL ρ t.v = (t.ren ρ).v := by
  obtain ⟨k, n, a, id, l⟩ := t
  simp only [TX.v, TX.ren, TX.kind, TX.n, TX.a, TX.id, TX.kids, PV.renL, PV.ren, kidV_ren, TX.renL_len]
theorem TX.ren_vL (ρ : Nat → Nat) (l : List TX) : PV.renL ρ (TX.vL l) = TX.vL (TX.renL ρ l) := by
  induction l with
  | nil => rfl
  | cons t l ih =>
    simp only [TX.vL, List.map_cons, List.flatten_cons, TX.renL] at ih ⊢
    rw [renL_app, ih, TX.ren_v]
def renO (ρ : Nat → Nat) (q : Nat × AObj) : Nat × AObj := (ρ q.1, q.2.ren ρ)
mutual
theorem TX.ren_ob (ρ : Nat → Nat) : (t : TX) → (t.ren ρ).ob = t.ob.map (renO ρ)
  | .mk k n a id l => by
    rw [TX.ren, TX.ob, TX.ob, TX.renL_ob ρ l, TX.renL_len]
    split
    · rfl
    · simp only [List.map_append, List.map_cons, List.map_nil, renO, AObj.ren, TX.ren_vL]
theorem TX.renL_ob (ρ : Nat → Nat) : (l : List TX) → TX.obL (TX.renL ρ l) = (TX.obL l).map (renO ρ)
  | [] => rfl
  | t :: l => by rw [TX.renL, TX.obL, TX.obL, TX.ren_ob ρ t, TX.renL_ob ρ l, List.map_append]
end
mutual
def Ex.nn : Ex → Nat | .mk _ _ _ l => (if l.length = 0 then 0 else 1) + Ex.nnL l
def Ex.nnL : List Ex → Nat | [] => 0 | e :: l => e.nn + Ex.nnL l
end
mutual
theorem TX.ks_len : (t : TX) → (ksL t.ob).length = t.ex.nn
  | .mk k n a id l => by
    rw [TX.ob, TX.ex, Ex.nn, ksL_app, List.length_append, TX.ksL_len l, TX.exL_map, List.length_map]
    split <;> simp [ksL]
theorem TX.ksL_len : (l : List TX) → (ksL (TX.obL l)).length = Ex.nnL (TX.exL l)
  | [] => rfl
  | t :: l => by rw [TX.obL, TX.exL, Ex.nnL, ksL_app, List.length_append, TX.ks_len t, TX.ksL_len l]
end
theorem kidV_ids (p : Nat → Prop) (id n : Nat) (h : n ≠ 0 → p id) : (kidV id n).ids p := by
  unfold kidV
  split
  · simp [PV.ids]
  · rename_i hn; simpa [PV.ids] using h hn
mutual
theorem TX.v_ids (p : Nat → Prop) : (t : TX) → (∀ j ∈ ksL t.ob, p j) → PV.idsL p t.v
  | .mk k n a id l, h => by
    have : (kidV id l.length).ids p := kidV_ids p id l.length fun hn => h id (by rw [TX.ob_cons (by omega)]; simp [ksL])
    simp only [TX.v, TX.kind, TX.n, TX.a, TX.id, TX.kids, PV.idsL, PV.ids]
    simp [this]
theorem TX.vL_ids (p : Nat → Prop) : (l : List TX) → (∀ j ∈ ksL (TX.obL l), p j) → PV.idsL p (TX.vL l)
  | [], _ => by simp [TX.vL, PV.idsL]
  | t :: l, h => by
    rw [TX.obL, ksL_app] at h
    have h1 := TX.v_ids p t fun j hj => h j (List.mem_append_left _ hj)
    have h2 := TX.vL_ids p l fun j hj => h j (List.mem_append_right _ hj)
    simp only [TX.vL, List.map_cons, List.flatten_cons] at h2 ⊢
    rw [idsL_app]; exact ⟨h1, h2⟩
end
mutual
theorem TX.ob_ids (p : Nat → Prop) : (t : TX) → (∀ j ∈ ksL t.ob, p j) → ∀ q ∈ t.ob, q.2.ids p
  | .mk k n a id l, h, q, hq => by
    rw [TX.ob] at hq h
    rw [ksL_app] at h
    have hL : ∀ j ∈ ksL (TX.obL l), p j := fun j hj => h j (List.mem_append_right _ hj)
    rcases List.mem_append.1 hq with hq | hq
    · split at hq
      · simp at hq
      · simp only [List.mem_cons, List.not_mem_nil, or_false] at hq
        subst hq
        exact TX.vL_ids p l hL
    · exact TX.obL_ids p l hL q hq
theorem TX.obL_ids (p : Nat → Prop) : (l : List TX) → (∀ j ∈ ksL (TX.obL l), p j) → ∀ q ∈ TX.obL l, q.2.ids p
  | [], _, q, hq => by simp [TX.obL] at hq
  | t :: l, h, q, hq => by
    rw [TX.obL] at hq h
    rw [ksL_app] at h
    rcases List.mem_append.1 hq with hq | hq
    · exact TX.ob_ids p t (fun j hj => h j (List.mem_append_left _ hj)) q hq
    · exact TX.obL_ids p l (fun j hj => h j (List.mem_append_right _ hj)) q hq
end
end Go.Proofs.YtmicbfojofcigaaGreat
namespace Go.Proofs.YtmicbfojofcigaaGreat
open Go Sg
set_option maxRecDepth 100000
set_option linter.unusedSimpArgs false
set_option linter.unusedVariables false
set_option linter.unusedSectionVars false
set_option maxHeartbeats 4000000
variable [Tab]
theorem TX.exL_app (l r : List TX) : TX.exL (l ++ r) = TX.exL l ++ TX.exL r := by simp [TX.exL_map]
end Go.Proofs.YtmicbfojofcigaaGreat
namespace Go.Proofs.YtmicbfojofcigaaGreat
open Go Sg
set_option maxRecDepth 100000
set_option linter.unusedSimpArgs false
set_option linter.unusedVariables false
set_option linter.unusedSectionVars false
set_option maxHeartbeats 4000000
variable [Tab]
end Go.Proofs.YtmicbfojofcigaaGreat
namespace Go.Proofs.YtmicbfojofcigaaGreat
open Go Sg
set_option maxRecDepth 100000
set_option linter.unusedSimpArgs false
set_option linter.unusedVariables false
set_option linter.unusedSectionVars false
set_option maxHeartbeats 4000000
variable [Tab]
end Go.Proofs.YtmicbfojofcigaaGreat
namespace Go.Proofs.YtmicbfojofcigaaGreat
open Go Sg
set_option maxRecDepth 100000
set_option linter.unusedSimpArgs false
set_option linter.unusedVariables false
set_option linter.unusedSectionVars false
set_option maxHeartbeats 4000000
variable [Tab]
theorem u64w (n : Int) (h : 0 ≤ n) (h1 : n < 18446744073709551616) : IntKind.u64.wrap n = n := by
  show n % 18446744073709551616 = n
  omega
theorem u32w (n : Int) (h : 0 ≤ n) (h1 : n < 4294967296) : IntKind.u32.wrap n = n := by
  show n % 4294967296 = n
  omega
theorem u8w (n : Int) (h : 0 ≤ n) (h1 : n < 256) : IntKind.u8.wrap n = n := by
  show n % 256 = n
  omega
theorem tmod100 (n : Int) (h : 0 ≤ n) : Int.tmod n 100 = n % 100 := Int.tmod_eq_emod_of_nonneg h
theorem tmod10000 (n : Int) (h : 0 ≤ n) : Int.tmod n 10000 = n % 10000 := Int.tmod_eq_emod_of_nonneg h
theorem tdiv100 (n : Int) (h : 0 ≤ n) : Int.tdiv n 100 = n / 100 := Int.tdiv_eq_ediv_of_nonneg h
theorem tdiv10000 (n : Int) (h : 0 ≤ n) : Int.tdiv n 10000 = n / 10000 := Int.tdiv_eq_ediv_of_nonneg h
def sbU (s : ByteArray) (i : Int) : UInt8 := s.data.getD i.toNat 0
def sb (s : ByteArray) (i : Int) : Int := ((sbU s i).toNat : Int)
theorem sb_eq (s : ByteArray) (i : Int) : ((sbU s i).toNat : Int) = sb s i := rfl
theorem get_str (s : ByteArray) (i : Int) (n : Nat) (hn : s.size = n) (h0 : 0 ≤ i) (h1 : i < n) : s[i.toNat]? = some (sbU s i) := by
  have hi : i.toNat < s.size := by omega
  have : s[i.toNat]? = some s[i.toNat] := getElem?_pos s i.toNat hi
  rw [this]
  have hd : i.toNat < s.data.size := hi
  simp [sbU, Array.getD, hd, hi, ByteArray.getElem_eq_getElem_data]
theorem shrK (t : TypeId) (x y : Operand) (n : Int) (k : Int) (h : 0 ≤ n) (hk : k = 16 ∨ k = 8) : binOpA Tryz.prog .shr t x y (.int .u64 n) (.int .u64 k) = some (.int .u64 (n / (2 ^ k.toNat : Int))) := by
  rw [bin_shr]
  simp only [shiftA]
  rw [if_neg (by omega)]
  rcases hk with rfl | rfl
  · show some (PV.int .u64 (n.fdiv (2 ^ 16))) = _
    rw [Int.fdiv_eq_ediv_of_nonneg _ (by decide)]
    rfl
  · show some (PV.int .u64 (n.fdiv (2 ^ 8))) = _
    rw [Int.fdiv_eq_ediv_of_nonneg _ (by decide)]
    rfl
@[go_sem high] theorem shr16 (t : TypeId) (x y : Operand) (n : Int) (h : 0 ≤ n) : binOpA Tryz.prog .shr t x y (.int .u64 n) (.int .u64 16) = some (.int .u64 (n / 65536)) := shrK t x y n 16 h (.inl rfl)
@[go_sem high] theorem shr8 (t : TypeId) (x y : Operand) (n : Int) (h : 0 ≤ n) : binOpA Tryz.prog .shr t x y (.int .u64 n) (.int .u64 8) = some (.int .u64 (n / 256)) := shrK t x y n 8 h (.inr rfl)
@[go_sem high] theorem shr18 (t : TypeId) (x y : Operand) (n : Int) (h : 0 ≤ n) : binOpA Tryz.prog .shr t x y (.int .i64 n) (.int .u64 18) = some (.int .i64 (n / 262144)) := by
  rw [bin_shr]
  simp only [shiftA]
  rw [if_neg (by omega)]
  show some (PV.int .i64 (n.fdiv (2 ^ 18))) = _
  rw [Int.fdiv_eq_ediv_of_nonneg _ (by decide)]
  rfl
def len8 (x : Int) : Int := if x < 1 then 0 else if x < 2 then 1 else if x < 4 then 2 else if x < 8 then 3 else if x < 16 then 4 else if x < 32 then 5 else if x < 64 then 6 else if x < 128 then 7 else 8
def lenN (n : Int) : Int := if n ≥ 65536 then (if n / 65536 ≥ 256 then 16 + 8 + len8 (n / 65536 / 256) else 16 + len8 (n / 65536)) else if n ≥ 256 then 8 + len8 (n / 256) else len8 n
theorem len8_rng (x : Int) : 0 ≤ len8 x ∧ len8 x ≤ 8 ∧ (x < 16 → len8 x ≤ 4) := by
  unfold len8
  refine ⟨?_, ?_, fun _ => ?_⟩ <;> (repeat' split) <;> omega
theorem lenN_rng (n : Int) (h0 : 0 ≤ n) (h1 : n ≤ 1000000) : 0 ≤ lenN n ∧ lenN n ≤ 20 := by
  unfold lenN
  have a := len8_rng (n / 65536 / 256)
  have b := len8_rng (n / 65536)
  have c := len8_rng (n / 256)
  have d := len8_rng n
  have := b.2.2 (by omega)
  split
  · split
    · omega
    · omega
  · split <;> omega
theorem len64_ok (n : Int) (h0 : 0 ≤ n) (h1 : n ≤ 1000000) : PureF Tryz.prog 143 [.int .u64 n] [.int .i64 (lenN n)] := by
  refine pureF_of Tryz.func143 rfl Tryz.ntmps143 (by simp) T_ ?_
  intro f0 B Q hQ
  refine g_ [0,2] ?_
  refine n_ ?_
  go_name_bytes_deep 30 L8 hL8
  have hs : L8.size = 256 := by rw [← hL8]; rfl
  have hidx := fun i h0 h1 => get_str L8 i 256 hs h0 h1
  have hlen : ∀ (i : Int), 0 ≤ i → i < 256 → ((sbU L8 i).toNat : Int) = len8 i := by
    intro i h0 h1
    have e : ∀ i : Fin 256, sb L8 (i.1 : Int) = len8 (i.1 : Int) := by rw [← hL8]; decide +kernel
    have := e ⟨i.toNat, by omega⟩
    simp only [Int.toNat_of_nonneg h0] at this
    exact this
  clear hL8
  refine g_ [0,2,4] ?_
  refine c_ (fun hc0 => ?_) fun hc0 => ?_
  · exfalso; omega
  refine g_ [0,2,8] ?_
  refine c_ (fun hc1 => ?_) fun hc1 => ?_
  ·
    refine g_ [0,2] ?_
    refine g_ [0,2] ?_
    refine g_ [0,2,14] ?_
    refine c_ (fun hc2 => ?_) fun hc2 => ?_
    ·
      refine g_ [0,2] ?_
      refine g_ [0,2] ?_
      refine n_ ?_
      refine wpM_regionK [2] rfl fun Q1 hQ1 => ?_
      simp -implicitDefEqProofs (disch := omega) only [go_sem, u8w, hidx, hlen]
      refine hQ1 _ _ (S_ ?_);clear hQ1 Q1
      refine e_ Tryz.results143 ?_
      first
      | exact True.intro
      | unfold lenN
        have r1 := len8_rng (n / 65536 / 256)
        have r2 := len8_rng (n / 65536)
        have r3 := len8_rng (n / 256)
        have r4 := len8_rng n
        simp only [*, ↓reduceIte, Bool.false_eq_true]
        try simp (disch := omega) only [wrap64]
        try omega
    refine n_ ?_
    refine wpM_regionK [2] rfl fun Q1 hQ1 => ?_
    simp -implicitDefEqProofs (disch := omega) only [go_sem, u8w, hidx, hlen]
    refine hQ1 _ _ (S_ ?_);clear hQ1 Q1
    refine e_ Tryz.results143 ?_
    first
    | exact True.intro
    | unfold lenN
      have r1 := len8_rng (n / 65536 / 256)
      have r2 := len8_rng (n / 65536)
      have r3 := len8_rng (n / 256)
      have r4 := len8_rng n
      simp only [*, ↓reduceIte, Bool.false_eq_true]
      try simp (disch := omega) only [wrap64]
      try omega
  refine g_ [0,2,14] ?_
  refine c_ (fun hc3 => ?_) fun hc3 => ?_
  ·
    refine g_ [0,2] ?_
    refine g_ [0,2] ?_
    refine n_ ?_
    refine wpM_regionK [2] rfl fun Q1 hQ1 => ?_
    simp -implicitDefEqProofs (disch := omega) only [go_sem, u8w, hidx, hlen]
    refine hQ1 _ _ (S_ ?_);clear hQ1 Q1
    refine e_ Tryz.results143 ?_
    first
    | exact True.intro
    | unfold lenN
      have r1 := len8_rng (n / 65536 / 256)
      have r2 := len8_rng (n / 65536)
      have r3 := len8_rng (n / 256)
      have r4 := len8_rng n
      simp only [*, ↓reduceIte, Bool.false_eq_true]
      try simp (disch := omega) only [wrap64]
      try omega
  refine n_ ?_
  refine wpM_regionK [2] rfl fun Q1 hQ1 => ?_
  simp -implicitDefEqProofs (disch := omega) only [go_sem, u8w, hidx, hlen]
  refine hQ1 _ _ (S_ ?_);clear hQ1 Q1
  refine e_ Tryz.results143 ?_
  first
  | exact True.intro
  | unfold lenN
    have r1 := len8_rng (n / 65536 / 256)
    have r2 := len8_rng (n / 65536)
    have r3 := len8_rng (n / 256)
    have r4 := len8_rng n
    simp only [*, ↓reduceIte, Bool.false_eq_true]
    try simp (disch := omega) only [wrap64]
    try omega
def l10 (n : Int) : Int := lenN n * 78913 / 262144
theorem l10_rng (n : Int) (h0 : 0 ≤ n) (h1 : n ≤ 1000000) : 0 ≤ l10 n ∧ l10 n ≤ 6 := by
  have := lenN_rng n h0 h1
  unfold l10
  omega
theorem log10_ok (x : Int) (h0 : 0 ≤ x) (h1 : x ≤ 64) : PureF Tryz.prog 142 [.int .i64 x] [.int .i64 (x * 78913 / 262144)] := by
  refine pureF_of Tryz.func142 rfl Tryz.ntmps142 (by simp) T_ ?_
  intro f0 B Q hQ
  refine g_ [0] ?_
  refine g_ [2] ?_
  refine e_ Tryz.results142 ?_
  first
  | exact True.intro
  | first | rfl | omega
theorem bool2_ok (b : Bool) : PureF Tryz.prog 144 [.bool b] [.int .i64 (if b then 1 else 0)] := by
  refine pureF_of Tryz.func144 rfl Tryz.ntmps144 (by simp) T_ ?_
  intro f0 B Q hQ
  refine g_ [0] ?_
  refine g_ [3] ?_
  refine c_ (fun hc0 => ?_) fun hc0 => ?_
  ·
    refine g_ [2] ?_
    refine e_ Tryz.results144 ?_
    first
    | exact True.intro
    | simp [*]
  refine g_ [2] ?_
  refine e_ Tryz.results144 ?_
  first
  | exact True.intro
  | simp [*]
def ndT (n : Int) : Int := l10 n + (if n ≥ Tab.pw.getD (l10 n).toNat 0 then 1 else 0)
theorem ndT_rng (n : Int) (h0 : 0 ≤ n) (h1 : n ≤ 1000000) : 0 ≤ ndT n ∧ ndT n ≤ 7 := by
  have := l10_rng n h0 h1
  unfold ndT
  split <;> omega
theorem ndT_two (n : Int) (h0 : 100 ≤ n) (h1 : n ≤ 1000000) : 2 ≤ ndT n := by
  have hl : 7 ≤ lenN n := by
    have a := len8_rng (n / 65536 / 256)
    have b := len8_rng (n / 65536)
    have c := len8_rng (n / 256)
    unfold lenN
    split
    · split <;> omega
    · split
      · omega
      · unfold len8
        repeat' split
        all_goals omega
  have : 2 ≤ l10 n := by unfold l10; omega
  unfold ndT
  split <;> omega
theorem pw_len : (Tab.pw.map (PV.int .u64)).length = 20 := by rw [List.length_map, Tab.hlen]
theorem pw_take (k : Nat) (h : k < 20) : takeVar Tryz.prog 144 ((Tab.pw.map (PV.int .u64)).drop k) = some (.int .u64 (Tab.pw.getD k 0)) := by
  have hk : k < (Tab.pw.map (PV.int .u64)).length := by rw [pw_len]; exact h
  rw [List.drop_eq_getElem_cons hk]
  have : (Tab.pw.map (PV.int .u64))[k] = .int .u64 (Tab.pw.getD k 0) := by
    have hk' : k < Tab.pw.length := by rw [Tab.hlen]; exact h
    simp [List.getD, hk']
  rw [this]
  simp -implicitDefEqProofs (disch := omega) only [go_sem]
theorem numDigits_ok (n : Int) (h0 : 0 ≤ n) (h1 : n ≤ 1000000) : PureF Tryz.prog 139 [.int .u64 n] [.int .i64 (ndT n)] := by
  have hL := lenN_rng n h0 h1
  have hl := l10_rng n h0 h1
  have hll : lenN n * 78913 / 262144 = l10 n := rfl
  refine pureF_of Tryz.func139 rfl Tryz.ntmps139 (by simp) T_ ?_
  intro f0 B Q hQ
  refine g_ [0] ?_
  refine n_ ?_
  refine wpM_regionK [0,3] rfl fun Q1 hQ1 => ?_
  refine S_ ?_
  refine cp_ (len64_ok n h0 h1) Tryz.call143 ?_
  refine cp_ (log10_ok (lenN n) (by omega) (by omega)) Tryz.call142 ?_
  refine hQ1 _ _ (S_ ?_);clear hQ1 Q1
  refine n_ ?_
  rw [hll]
  refine wpM_regionK [2] rfl fun Q1 hQ1 => ?_
  simp -implicitDefEqProofs (disch := omega) only [go_sem, pw_len, pw_take]
  refine call_p (bool2_ok _) Tryz.call144 rfl rfl rfl (by first | rfl | (simp -implicitDefEqProofs (disch := omega) only [go_sem] <;> rfl)) ?_
  simp -implicitDefEqProofs (disch := omega) only [go_sem, pw_len, pw_take]
  refine hQ1 _ _ (S_ ?_);clear hQ1 Q1
  refine e_ Tryz.results139 ?_
  first
  | exact True.intro
  | unfold ndT
    split <;> simp_all
end Go.Proofs.YtmicbfojofcigaaGreat
namespace Go.Proofs.YtmicbfojofcigaaGreat
open Go Sg
set_option maxRecDepth 100000
set_option linter.unusedSimpArgs false
set_option linter.unusedVariables false
set_option linter.unusedSectionVars false
set_option maxHeartbeats 4000000
variable [Tab]
def b8 (l : List Int) : List PV := l.map (.int .u8)
@[go_sem] theorem b8_len (l : List Int) : (b8 l).length = l.length := by simp [b8]
@[go_sem high] theorem splice_b8 (l : List Int) (k : Nat) (b : Int) (h : k < l.length) : splice (b8 l) k [.int .u8 b] = b8 (l.set k b) := by
  simp only [splice, b8, List.length_cons, List.length_nil]
  rw [List.map_set, List.set_eq_take_append_cons_drop, if_pos (by simpa using h)]; simp
@[go_sem high] theorem splice_b8' (l : List Int) (i : Nat) (x : Int) (k : Nat) (b : Int) (h : k < l.length) : splice (b8 (l.set i x)) k [.int .u8 b] = b8 ((l.set i x).set k b) := splice_b8 _ _ _ (by rw [List.length_set]; exact h)
@[go_sem] theorem idsL_b8 (p : Nat → Prop) (l : List Int) : PV.idsL p (b8 l) = True := by
  induction l with
  | nil => simp [b8, PV.idsL]
  | cons x l ih => simp only [b8, List.map_cons, PV.idsL, PV.ids, true_and] at ih ⊢; exact ih
theorem bytA_b8 : (l : List Int) → bytA (b8 l) = some (l.map fun n => UInt8.ofNat n.toNat)
  | [] => rfl
  | x :: l => by
    have := bytA_b8 l
    simp only [b8, List.map_cons, bytA] at this ⊢
    rw [this]; rfl
theorem b8_dt (l : List Int) (a b : Nat) : ((b8 l).drop a).take b = b8 ((l.drop a).take b) := by simp [b8, List.map_take, List.map_drop]
@[go_sem] theorem bytA_take (l : List Int) (b : Nat) : bytA ((b8 l).take b) = some ((l.take b).map fun n => UInt8.ofNat n.toNat) := by rw [show (b8 l).take b = b8 (l.take b) by simp [b8, List.map_take], bytA_b8]
@[go_sem] theorem bytA_dt (l : List Int) (a b : Nat) : bytA (((b8 l).drop a).take b) = some (((l.drop a).take b).map fun n => UInt8.ofNat n.toNat) := by rw [b8_dt, bytA_b8]
def smallS (n : Int) : ByteArray := if n < 10 then Lib.digits36.extract n.toNat (n + 1).toNat else Lib.smalls.extract (n * 2).toNat (n * 2 + 2).toNat
theorem smallS_size (n : Int) (h0 : 0 ≤ n) : (smallS n).size ≤ 2 := by
  unfold smallS
  split <;> simp <;> omega
theorem small_ok (n : Int) (h0 : 0 ≤ n) (h1 : n < 100) : PureF Tryz.prog 138 [.int .i64 n] [.str (smallS n)] := by
  refine pureF_of Tryz.func138 rfl Tryz.ntmps138 (by simp) T_ ?_
  intro f0 B Q hQ
  have h36 := Lib.digits36_size
  have h200 := Lib.smalls_size
  refine g_ [0] ?_
  refine n_ ?_
  go_name_bytes_deep 45 SM hSM
  have eSM : SM = Lib.smalls := by rw [← hSM]; decide +kernel
  subst eSM
  clear hSM
  go_name_bytes_deep 30 DG hDG
  have eDG : DG = Lib.digits36 := by rw [← hDG]; decide +kernel
  subst eDG
  clear hDG
  refine g_ [0,4] ?_
  refine c_ (fun hc0 => ?_) fun hc0 => ?_
  ·
    refine n_ ?_
    refine wpM_regionK [2] rfl fun Q1 hQ1 => ?_
    simp -implicitDefEqProofs (disch := omega) only [go_sem, h36]
    refine hQ1 _ _ (S_ ?_);clear hQ1 Q1
    refine e_ Tryz.results138 ?_
    first
    | exact True.intro
    | simp only [smallS, *, ↓reduceIte]
  refine n_ ?_
  refine wpM_regionK [2] rfl fun Q1 hQ1 => ?_
  simp -implicitDefEqProofs (disch := omega) only [go_sem, h200]
  refine hQ1 _ _ (S_ ?_);clear hQ1 Q1
  refine e_ Tryz.results138 ?_
  first
  | exact True.intro
  | simp only [smallS, *, ↓reduceIte]
def p2 (L : List Int) (a b x : Int) : List Int := (L.set (1 + a.toNat) (sb Lib.smalls (x + 1))).set (1 + b.toNat) (sb Lib.smalls x)
theorem p2_len (L : List Int) (a b x : Int) : (p2 L a b x).length = L.length := by simp [p2]
def f1 (L : List Int) (x : Int) : List Int := L.set 1 (IntKind.u8.wrap (48 + x))
theorem f1_len (L : List Int) (x : Int) : (f1 L x).length = L.length := by simp [f1]
def g2 (L : List Int) (k u : Int) : List Int :=
  if k ≥ 2 then (if k - 2 > 0 then f1 (p2 L (k - 1) (k - 2) (u % 100 * 2)) (u / 100) else p2 L (k - 1) (k - 2) (u % 100 * 2)) else if k > 0 then f1 L u else L
def g4 (L : List Int) (k u : Int) : List Int :=
  if k ≥ 4 then g2 (p2 (p2 L (k - 1) (k - 2) (u % 10000 % 100 * 2)) (k - 3) (k - 4) (u % 10000 / 100 * 2)) (k - 4) (u / 10000) else g2 L k u
theorem g2_len (L : List Int) (k u : Int) : (g2 L k u).length = L.length := by
  unfold g2
  repeat' split
  all_goals simp [f1_len, p2_len]
theorem g4_len (L : List Int) (k u : Int) : (g4 L k u).length = L.length := by
  unfold g4
  split <;> simp [g2_len, p2_len]
theorem fmt_ok (id : Nat) (L : List Int) (k : Nat) (u : Int) (h0 : 0 ≤ u) (h1 : u ≤ 1000000) (hk : k ≤ 7) (hL : L.length = 24) :
    CallF Tryz.prog 140 [.sl 5 id 1 k, .int .u64 u] [(id, .cells 171 (b8 L))] 0 (fun _ o => o = { rs := [], u := [(id, some (.cells 171 (b8 (g4 L k u))))] }) := by
  refine callF_of' Tryz.func140 rfl Tryz.ntmps140 (by simp) ?_
  intro f0 B ns Q hB hns hQ
  have hid : id < B := hB id (by simp [hasKey, lk])
  obtain rfl : ns = [] := List.eq_nil_of_length_eq_zero hns
  refine n_ ?_
  go_name_bytes_deep 45 SM hSM
  have eSM : SM = Lib.smalls := by rw [← hSM]; decide +kernel
  subst eSM
  clear hSM
  have hidx := fun i h0 h1 => get_str Lib.smalls i 200 Lib.smalls_size h0 h1
  refine g_ [0,1,4] ?_
  refine n_ ?_
  refine wpM_loopS (fun s r s' => s' = s) (0) ?_ ?_
  ·
    refine .of' _ _ rfl ?_ ?_ ?_
    all_goals exact L_
  rintro r s' rfl
  try refine S_ ?_
  refine g_ [0,1,4,20] ?_
  refine c_ (fun hc0 => ?_) fun hc0 => ?_
  · exfalso; omega
  refine n_ ?_
  refine wpM_regionK [0,4,12] rfl fun Q1 hQ1 => ?_
  simp -implicitDefEqProofs (disch := omega) only [go_sem, u32w]
  refine hQ1 _ _ (S_ ?_);clear hQ1 Q1
  refine g_ [0,4,12,99] ?_
  refine c_ (fun hc1 => ?_) fun hc1 => ?_
  ·
    refine n_ ?_
    refine wpM_regionK [0,4,12,13] rfl fun Q1 hQ1 => ?_
    simp -implicitDefEqProofs (disch := omega) only [go_sem, tmod10000]
    refine hQ1 _ _ (S_ ?_);clear hQ1 Q1
    refine n_ ?_
    refine wpM_regionK [0,4,12,13] rfl fun Q1 hQ1 => ?_
    simp -implicitDefEqProofs (disch := omega) only [go_sem, tdiv10000, u32w]
    refine hQ1 _ _ (S_ ?_);clear hQ1 Q1
    refine n_ ?_
    refine wpM_regionK [0,4,12,14,15] rfl fun Q1 hQ1 => ?_
    simp -implicitDefEqProofs (disch := omega) only [go_sem, tdiv100, tmod100, u32w]
    refine hQ1 _ _ (S_ ?_);clear hQ1 Q1
    refine n_ ?_
    refine dr_ mixed [0,4,12,14] 0 1 [id] [⟨[0],[],[],[],false⟩,⟨[4],[],[],[],false⟩,⟨[111],[],[],[],false⟩,⟨[0],[],[],[],false⟩,⟨[4],[],[],[],false⟩,⟨[114],[],[],[],false⟩,⟨[15],[],[],[],false⟩,⟨[116],[],[],[],false⟩,⟨[117],[],[],[],false⟩,⟨[15],[],[],[],false⟩,⟨[119],[],[],[],false⟩,⟨[110,112],[],[],[],false⟩,⟨[118,121],[0],[0],[],false⟩,⟨[113,115],[],[],[],false⟩,⟨[120,122],[0],[0],[],false⟩] [0,1,2,3,4,5,6,7,8,9,10,11,12,13,14] [[],[],[1],[],[],[4],[],[6],[6,7],[],[9],[0,1,2,6,7,8],[0,1,2,6,7,8,11],[0,1,2,3,4,5,6,7,8,9,10,11,12],[0,1,2,3,4,5,6,7,8,9,10,11,12,13]] 1 ?_
    intro O A K hO hA hK;simp only [atL_cons,atL_nil,Nat.reduceAdd,Nat.zero_add] at hO hA
    simp -implicitDefEqProofs (disch := omega) only [go_sem, u32w, hidx, sb_eq, List.length_set, hO, hA]
    refine hK _ (S_ ?_);clear hK K hO hA O A
    obtain ⟨L1, e1, l1⟩ : ∃ L1 : List Int, L1 = p2 L ((k : Int) - 1) ((k : Int) - 2) (u % 10000 % 100 * 2) ∧ L1.length = 24 := ⟨_, rfl, by simp [p2, hL]⟩
    rw [show (L.set (1 + ((k : Int) - 1).toNat) _).set (1 + ((k : Int) - 2).toNat) _ = L1 from e1.symm]
    refine n_ ?_
    refine dr_ mixed [0,4,12] 0 1 [id] [⟨[0],[],[],[],false⟩,⟨[4],[],[],[],false⟩,⟨[124],[],[],[],false⟩,⟨[0],[],[],[],false⟩,⟨[4],[],[],[],false⟩,⟨[127],[],[],[],false⟩,⟨[14],[],[],[],false⟩,⟨[129],[],[],[],false⟩,⟨[130],[],[],[],false⟩,⟨[14],[],[],[],false⟩,⟨[132],[],[],[],false⟩,⟨[123,125],[],[],[],false⟩,⟨[131,134],[0],[0],[],false⟩,⟨[126,128],[],[],[],false⟩,⟨[133,135],[0],[0],[],false⟩] [0,1,2,3,4,5,6,7,8,9,10,11,12,13,14] [[],[],[1],[],[],[4],[],[6],[6,7],[],[9],[0,1,2,6,7,8],[0,1,2,6,7,8,11],[0,1,2,3,4,5,6,7,8,9,10,11,12],[0,1,2,3,4,5,6,7,8,9,10,11,12,13]] 1 ?_
    intro O A K hO hA hK;simp only [atL_cons,atL_nil,Nat.reduceAdd,Nat.zero_add] at hO hA
    simp -implicitDefEqProofs (disch := omega) only [go_sem, u32w, hidx, sb_eq, List.length_set, hO, hA]
    refine hK _ (S_ ?_);clear hK K hO hA O A
    obtain ⟨L2, e2, l2⟩ : ∃ L2 : List Int, L2 = p2 L1 ((k : Int) - 3) ((k : Int) - 4) (u % 10000 / 100 * 2) ∧ L2.length = 24 := ⟨_, rfl, by simp [p2, l1]⟩
    rw [show (L1.set (1 + ((k : Int) - 3).toNat) _).set (1 + ((k : Int) - 4).toNat) _ = L2 from e2.symm]
    refine g_ [0,4,12] ?_
    refine g_ [0,4,12,139] ?_
    refine c_ (fun hc2 => ?_) fun hc2 => ?_
    ·
      refine n_ ?_
      refine wpM_regionK [0,4,12,16] rfl fun Q1 hQ1 => ?_
      simp -implicitDefEqProofs (disch := omega) only [go_sem, tmod100, u32w]
      refine hQ1 _ _ (S_ ?_);clear hQ1 Q1
      refine n_ ?_
      refine wpM_regionK [0,4,12,16] rfl fun Q1 hQ1 => ?_
      simp -implicitDefEqProofs (disch := omega) only [go_sem, tdiv100, u32w]
      refine hQ1 _ _ (S_ ?_);clear hQ1 Q1
      refine n_ ?_
      refine dr_ mixed [0,4,12] 0 1 [id] [⟨[0],[],[],[],false⟩,⟨[4],[],[],[],false⟩,⟨[146],[],[],[],false⟩,⟨[0],[],[],[],false⟩,⟨[4],[],[],[],false⟩,⟨[149],[],[],[],false⟩,⟨[16],[],[],[],false⟩,⟨[151],[],[],[],false⟩,⟨[152],[],[],[],false⟩,⟨[16],[],[],[],false⟩,⟨[154],[],[],[],false⟩,⟨[145,147],[],[],[],false⟩,⟨[153,156],[0],[0],[],false⟩,⟨[148,150],[],[],[],false⟩,⟨[155,157],[0],[0],[],false⟩] [0,1,2,3,4,5,6,7,8,9,10,11,12,13,14] [[],[],[1],[],[],[4],[],[6],[6,7],[],[9],[0,1,2,6,7,8],[0,1,2,6,7,8,11],[0,1,2,3,4,5,6,7,8,9,10,11,12],[0,1,2,3,4,5,6,7,8,9,10,11,12,13]] 1 ?_
      intro O A K hO hA hK;simp only [atL_cons,atL_nil,Nat.reduceAdd,Nat.zero_add] at hO hA
      simp -implicitDefEqProofs (disch := omega) only [go_sem, u32w, hidx, sb_eq, List.length_set, hO, hA]
      refine hK _ (S_ ?_);clear hK K hO hA O A
      first
      | (obtain ⟨L3, e3, l3⟩ : ∃ L3 : List Int, L3 = p2 L2 ((k : Int) - 4 - 1) ((k : Int) - 4 - 2) (u / 10000 % 100 * 2) ∧ L3.length = 24 := ⟨_, rfl, by simp [p2, l2]⟩
         rw [show (L2.set (1 + ((k : Int) - 4 - 1).toNat) _).set (1 + ((k : Int) - 4 - 2).toNat) _ = L3 from e3.symm])
      | (obtain ⟨L3, e3, l3⟩ : ∃ L3 : List Int, L3 = p2 L ((k : Int) - 1) ((k : Int) - 2) (u % 100 * 2) ∧ L3.length = 24 := ⟨_, rfl, by simp [p2, hL]⟩
         rw [show (L.set (1 + ((k : Int) - 1).toNat) _).set (1 + ((k : Int) - 2).toNat) _ = L3 from e3.symm])
      refine g_ [0,4,12] ?_
      refine g_ [0,12,161] ?_
      refine c_ (fun hc3 => ?_) fun hc3 => ?_
      ·
        refine wpM_regionK [] rfl fun Q1 hQ1 => ?_
        simp -implicitDefEqProofs (disch := omega) only [go_sem, u32w]
        refine hQ1 _ _ (S_ ?_);clear hQ1 Q1
        subst_vars
        have hg : g4 L k u = g4 L k u := rfl
        conv at hg =>
          rhs
          unfold g4 g2 f1
          simp only [*, ↓reduceIte]
        rw [hg] at hQ
        refine hQ _ _ (ret0n [(id, some (.cells 171 (b8 _)))] rfl rfl rfl (by rw [Tryz.results140] <;> simp (maxSteps := 1000000) -implicitDefEqProofs (disch := omega) only [go_sem] <;> rfl) rfl ?_ ?_ ?_ ?_)
        all_goals simp -implicitDefEqProofs (disch := omega) only [go_sem, true_or, or_true]
      refine n_ ?_
      subst_vars
      have hg : g4 L k u = g4 L k u := rfl
      conv at hg =>
        rhs
        unfold g4 g2 f1
        simp only [*, ↓reduceIte]
      rw [hg] at hQ
      refine hQ _ _ (ret0n [(id, some (.cells 171 (b8 _)))] rfl rfl rfl (by rw [Tryz.results140] <;> simp (maxSteps := 1000000) -implicitDefEqProofs (disch := omega) only [go_sem] <;> rfl) rfl ?_ ?_ ?_ ?_)
      all_goals simp -implicitDefEqProofs (disch := omega) only [go_sem, true_or, or_true]
    refine g_ [0,12,161] ?_
    refine c_ (fun hc4 => ?_) fun hc4 => ?_
    ·
      refine wpM_regionK [] rfl fun Q1 hQ1 => ?_
      simp -implicitDefEqProofs (disch := omega) only [go_sem, u32w]
      refine hQ1 _ _ (S_ ?_);clear hQ1 Q1
      subst_vars
      have hg : g4 L k u = g4 L k u := rfl
      conv at hg =>
        rhs
        unfold g4 g2 f1
        simp only [*, ↓reduceIte]
      rw [hg] at hQ
      refine hQ _ _ (ret0n [(id, some (.cells 171 (b8 _)))] rfl rfl rfl (by rw [Tryz.results140] <;> simp (maxSteps := 1000000) -implicitDefEqProofs (disch := omega) only [go_sem] <;> rfl) rfl ?_ ?_ ?_ ?_)
      all_goals simp -implicitDefEqProofs (disch := omega) only [go_sem, true_or, or_true]
    refine n_ ?_
    subst_vars
    have hg : g4 L k u = g4 L k u := rfl
    conv at hg =>
      rhs
      unfold g4 g2 f1
      simp only [*, ↓reduceIte]
    rw [hg] at hQ
    refine hQ _ _ (ret0n [(id, some (.cells 171 (b8 _)))] rfl rfl rfl (by rw [Tryz.results140] <;> simp (maxSteps := 1000000) -implicitDefEqProofs (disch := omega) only [go_sem] <;> rfl) rfl ?_ ?_ ?_ ?_)
    all_goals simp -implicitDefEqProofs (disch := omega) only [go_sem, true_or, or_true]
  refine g_ [0,4,12,139] ?_
  refine c_ (fun hc5 => ?_) fun hc5 => ?_
  ·
    refine n_ ?_
    refine wpM_regionK [0,4,12,16] rfl fun Q1 hQ1 => ?_
    simp -implicitDefEqProofs (disch := omega) only [go_sem, tmod100, u32w]
    refine hQ1 _ _ (S_ ?_);clear hQ1 Q1
    refine n_ ?_
    refine wpM_regionK [0,4,12,16] rfl fun Q1 hQ1 => ?_
    simp -implicitDefEqProofs (disch := omega) only [go_sem, tdiv100, u32w]
    refine hQ1 _ _ (S_ ?_);clear hQ1 Q1
    refine n_ ?_
    refine dr_ mixed [0,4,12] 0 1 [id] [⟨[0],[],[],[],false⟩,⟨[4],[],[],[],false⟩,⟨[146],[],[],[],false⟩,⟨[0],[],[],[],false⟩,⟨[4],[],[],[],false⟩,⟨[149],[],[],[],false⟩,⟨[16],[],[],[],false⟩,⟨[151],[],[],[],false⟩,⟨[152],[],[],[],false⟩,⟨[16],[],[],[],false⟩,⟨[154],[],[],[],false⟩,⟨[145,147],[],[],[],false⟩,⟨[153,156],[0],[0],[],false⟩,⟨[148,150],[],[],[],false⟩,⟨[155,157],[0],[0],[],false⟩] [0,1,2,3,4,5,6,7,8,9,10,11,12,13,14] [[],[],[1],[],[],[4],[],[6],[6,7],[],[9],[0,1,2,6,7,8],[0,1,2,6,7,8,11],[0,1,2,3,4,5,6,7,8,9,10,11,12],[0,1,2,3,4,5,6,7,8,9,10,11,12,13]] 1 ?_
    intro O A K hO hA hK;simp only [atL_cons,atL_nil,Nat.reduceAdd,Nat.zero_add] at hO hA
    simp -implicitDefEqProofs (disch := omega) only [go_sem, u32w, hidx, sb_eq, List.length_set, hO, hA]
    refine hK _ (S_ ?_);clear hK K hO hA O A
    first
    | (obtain ⟨L3, e3, l3⟩ : ∃ L3 : List Int, L3 = p2 L2 ((k : Int) - 4 - 1) ((k : Int) - 4 - 2) (u / 10000 % 100 * 2) ∧ L3.length = 24 := ⟨_, rfl, by simp [p2, l2]⟩
       rw [show (L2.set (1 + ((k : Int) - 4 - 1).toNat) _).set (1 + ((k : Int) - 4 - 2).toNat) _ = L3 from e3.symm])
    | (obtain ⟨L3, e3, l3⟩ : ∃ L3 : List Int, L3 = p2 L ((k : Int) - 1) ((k : Int) - 2) (u % 100 * 2) ∧ L3.length = 24 := ⟨_, rfl, by simp [p2, hL]⟩
       rw [show (L.set (1 + ((k : Int) - 1).toNat) _).set (1 + ((k : Int) - 2).toNat) _ = L3 from e3.symm])
    refine g_ [0,4,12] ?_
    refine g_ [0,12,161] ?_
    refine c_ (fun hc6 => ?_) fun hc6 => ?_
    ·
      refine wpM_regionK [] rfl fun Q1 hQ1 => ?_
      simp -implicitDefEqProofs (disch := omega) only [go_sem, u32w]
      refine hQ1 _ _ (S_ ?_);clear hQ1 Q1
      subst_vars
      have hg : g4 L k u = g4 L k u := rfl
      conv at hg =>
        rhs
        unfold g4 g2 f1
        simp only [*, ↓reduceIte]
      rw [hg] at hQ
      refine hQ _ _ (ret0n [(id, some (.cells 171 (b8 _)))] rfl rfl rfl (by rw [Tryz.results140] <;> simp (maxSteps := 1000000) -implicitDefEqProofs (disch := omega) only [go_sem] <;> rfl) rfl ?_ ?_ ?_ ?_)
      all_goals simp -implicitDefEqProofs (disch := omega) only [go_sem, true_or, or_true]
    refine n_ ?_
    subst_vars
    have hg : g4 L k u = g4 L k u := rfl
    conv at hg =>
      rhs
      unfold g4 g2 f1
      simp only [*, ↓reduceIte]
    rw [hg] at hQ
    refine hQ _ _ (ret0n [(id, some (.cells 171 (b8 _)))] rfl rfl rfl (by rw [Tryz.results140] <;> simp (maxSteps := 1000000) -implicitDefEqProofs (disch := omega) only [go_sem] <;> rfl) rfl ?_ ?_ ?_ ?_)
    all_goals simp -implicitDefEqProofs (disch := omega) only [go_sem, true_or, or_true]
  refine g_ [0,12,161] ?_
  refine c_ (fun hc7 => ?_) fun hc7 => ?_
  ·
    refine wpM_regionK [] rfl fun Q1 hQ1 => ?_
    simp -implicitDefEqProofs (disch := omega) only [go_sem, u32w]
    refine hQ1 _ _ (S_ ?_);clear hQ1 Q1
    subst_vars
    have hg : g4 L k u = g4 L k u := rfl
    conv at hg =>
      rhs
      unfold g4 g2 f1
      simp only [*, ↓reduceIte]
    rw [hg] at hQ
    refine hQ _ _ (ret0n [(id, some (.cells 171 (b8 _)))] rfl rfl rfl (by rw [Tryz.results140] <;> simp (maxSteps := 1000000) -implicitDefEqProofs (disch := omega) only [go_sem] <;> rfl) rfl ?_ ?_ ?_ ?_)
    all_goals simp -implicitDefEqProofs (disch := omega) only [go_sem, true_or, or_true]
  refine n_ ?_
  subst_vars
  have hg : g4 L k u = g4 L k u := rfl
  conv at hg =>
    rhs
    unfold g4 g2 f1
    simp only [*, ↓reduceIte]
  rw [hg] at hQ
  refine hQ _ _ (ret0n [(id, some (.cells 171 (b8 _)))] rfl rfl rfl (by rw [Tryz.results140] <;> simp (maxSteps := 1000000) -implicitDefEqProofs (disch := omega) only [go_sem] <;> rfl) rfl ?_ ?_ ?_ ?_)
  all_goals simp -implicitDefEqProofs (disch := omega) only [go_sem, true_or, or_true]
def zs24 : List Int := [0, 0, 0, 0, 0, 0, 0, 0, 0, 0, 0, 0, 0, 0, 0, 0, 0, 0, 0, 0, 0, 0, 0, 0]
theorem zs24_eq : [PV.int .u8 0, .int .u8 0, .int .u8 0, .int .u8 0, .int .u8 0, .int .u8 0, .int .u8 0, .int .u8 0, .int .u8 0, .int .u8 0, .int .u8 0, .int .u8 0, .int .u8 0, .int .u8 0, .int .u8 0, .int .u8 0, .int .u8 0, .int .u8 0, .int .u8 0, .int .u8 0, .int .u8 0, .int .u8 0, .int .u8 0, .int .u8 0] = b8 zs24 := rfl
def fmtS (n : Int) : ByteArray :=
  if 0 ≤ n ∧ n < 100 then smallS n
  else if n < 0 then txt ((((g4 zs24 (ndT (-n)) (-n)).set 0 45).take (1 + ndT (-n)).toNat).map fun n => UInt8.ofNat n.toNat)
  else txt ((((g4 zs24 (ndT n) n).drop 1).take (ndT n).toNat).map fun n => UInt8.ofNat n.toNat)
theorem ndT_cast (n : Int) (h0 : 0 ≤ n) (h1 : n ≤ 1000000) : ∃ k : Nat, k ≤ 7 ∧ ndT n = (k : Int) := by
  have := ndT_rng n h0 h1
  exact ⟨(ndT n).toNat, by omega, by omega⟩
theorem fmtSmall_ok (n : Int) (h0 : 0 ≤ n) (h1 : n < 100) : PureF Tryz.prog 137 [.int .i64 n, .int .i64 10] [.str (fmtS n)] := by
  refine pureF_of Tryz.func137 rfl Tryz.ntmps137 (by simp) T_ ?_
  intro f0 B Q hQ
  refine g_ [0,1] ?_
  refine g_ [0,1,11] ?_
  refine c1_ ?_
  refine gD_ [0,17] ?_
  refine c_ (fun hc1 => ?_) fun hc1 => ?_
  ·
    refine n_ ?_
    refine wpM_regionK [4] rfl fun Q1 hQ1 => ?_
    refine S_ ?_
    refine cp_ (small_ok n h0 h1) Tryz.call138 ?_
    refine hQ1 _ _ (S_ ?_);clear hQ1 Q1
    refine e_ Tryz.results137 ?_
    first
    | exact True.intro
    | rw [fmtS, if_pos ⟨h0, h1⟩]
  exfalso; simp at hc1; omega
theorem fmtPos_ok (n : Int) (h0 : 100 ≤ n) (h1 : n ≤ 1000000) : PureF Tryz.prog 137 [.int .i64 n, .int .i64 10] [.str (fmtS n)] := by
  obtain ⟨k, hk, hnd⟩ := ndT_cast n (by omega) h1
  have hg : (g4 zs24 k n).length = 24 := g4_len zs24 k n
  have hn2 := ndT_two n h0 h1
  have hz : zs24.length = 24 := rfl
  have hk1 : (1 < (1 + (k : Int)).toNat) = True := by simp; omega
  have hk2 : (1 + (k : Int)).toNat - 1 = k := by omega
  refine pureF_of Tryz.func137 rfl Tryz.ntmps137 (by simp) T_ ?_
  intro f0 B Q hQ
  refine g_ [0,1] ?_
  refine g_ [0,1,11] ?_
  refine c1_ ?_
  refine gD_ [0,17] ?_
  refine c_ (fun hc1 => ?_) fun hc1 => ?_
  · exfalso; simp at hc1; omega
  refine g_ [0,5] ?_
  rw [zs24_eq]
  refine n_ ?_
  refine wpM_regionK [0,5,6] rfl fun Q1 hQ1 => ?_
  simp -implicitDefEqProofs (disch := omega) only [go_sem, u64w]
  refine hQ1 _ _ (S_ ?_);clear hQ1 Q1
  refine g_ [0,5,6,23] ?_
  refine c_ (fun hc2 => ?_) fun hc2 => ?_
  · exfalso; omega
  refine n_ ?_
  refine wpM_regionK [0,5,6,7] rfl fun Q1 hQ1 => ?_
  refine S_ ?_
  refine cp_ (numDigits_ok n (by omega) h1) Tryz.call139 ?_
  refine hQ1 _ _ (S_ ?_);clear hQ1 Q1
  rw [hnd]
  refine n_ ?_
  refine wpM_regionK [0,5,7] rfl fun Q1 hQ1 => ?_
  simp -implicitDefEqProofs (disch := omega) only [go_sem, hz, hk1, hk2]
  refine call_fn (l := [(B, .cells 171 (b8 zs24))]) (first := []) (cap := []) (ps := [.sl 5 B 1 k, .int .u64 n]) (fmt_ok B zs24 k n (by omega) h1 hk rfl) Tryz.call140 rfl rfl rfl G_ T_ ?_
  rintro out rfl
  simp -implicitDefEqProofs (disch := omega) only [go_sem, hz, hk1, hk2]
  refine hQ1 _ _ (S_ ?_);clear hQ1 Q1
  refine g_ [5,7,34] ?_
  refine c_ (fun hc3 => ?_) fun hc3 => ?_
  · exfalso; omega
  refine n_ ?_
  refine wpM_regionK [4] rfl fun Q1 hQ1 => ?_
  simp -implicitDefEqProofs (disch := omega) only [go_sem, hg, hk1, hk2]
  refine hQ1 _ _ (S_ ?_);clear hQ1 Q1
  refine e_ Tryz.results137 ?_
  first
  | exact True.intro
  | rw [fmtS, if_neg (by omega), if_neg (by omega), hnd, Int.toNat_natCast]
theorem fmtNeg_ok (n : Int) (h0 : n < 0) (h1 : -1000000 ≤ n) (hp : 0 < ndT (-n)) : PureF Tryz.prog 137 [.int .i64 n, .int .i64 10] [.str (fmtS n)] := by
  obtain ⟨k, hk, hnd⟩ := ndT_cast (-n) (by omega) (by omega)
  have hg : ((g4 zs24 k (-n)).set 0 45).length = 24 := by rw [List.length_set]; exact g4_len zs24 k (-n)
  have hg' : (g4 zs24 k (-n)).length = 24 := g4_len zs24 k (-n)
  have hz : zs24.length = 24 := rfl
  have hk1 : (1 < (1 + (k : Int)).toNat) = True := by simp; omega
  have hk2 : (1 + (k : Int)).toNat - 1 = k := by omega
  have hw : IntKind.u64.wrap n = n + 18446744073709551616 := by
    show n % 18446744073709551616 = _
    omega
  have hw2 : IntKind.u64.wrap (0 - (n + 18446744073709551616)) = -n := by
    show (0 - (n + 18446744073709551616)) % 18446744073709551616 = _
    omega
  refine pureF_of Tryz.func137 rfl Tryz.ntmps137 (by simp) T_ ?_
  intro f0 B Q hQ
  refine g_ [0,1] ?_
  refine g_ [0,1,11] ?_
  refine c1_ ?_
  refine gD_ [0,17] ?_
  refine c_ (fun hc1 => ?_) fun hc1 => ?_
  · exfalso; simp at hc1; omega
  refine g_ [0,5] ?_
  rw [zs24_eq]
  refine n_ ?_
  refine wpM_regionK [0,5,6] rfl fun Q1 hQ1 => ?_
  simp -implicitDefEqProofs (disch := omega) only [go_sem, hw]
  refine hQ1 _ _ (S_ ?_);clear hQ1 Q1
  refine g_ [0,5,6,23] ?_
  refine c_ (fun hc2 => ?_) fun hc2 => ?_
  ·
    refine wpM_regionK [0,5,6] rfl fun Q1 hQ1 => ?_
    simp -implicitDefEqProofs (disch := omega) only [go_sem, hw2]
    refine hQ1 _ _ (S_ ?_);clear hQ1 Q1
    refine n_ ?_
    refine wpM_regionK [0,5,6,7] rfl fun Q1 hQ1 => ?_
    refine S_ ?_
    refine cp_ (numDigits_ok (-n) (by omega) (by omega)) Tryz.call139 ?_
    refine hQ1 _ _ (S_ ?_);clear hQ1 Q1
    rw [hnd]
    refine n_ ?_
    refine wpM_regionK [0,5,7] rfl fun Q1 hQ1 => ?_
    simp -implicitDefEqProofs (disch := omega) only [go_sem, hz, hk1, hk2]
    refine call_fn (l := [(B, .cells 171 (b8 zs24))]) (first := []) (cap := []) (ps := [.sl 5 B 1 k, .int .u64 (-n)]) (fmt_ok B zs24 k (-n) (by omega) (by omega) hk rfl) Tryz.call140 rfl rfl rfl G_ T_ ?_
    rintro out rfl
    simp -implicitDefEqProofs (disch := omega) only [go_sem, hz, hk1, hk2]
    refine hQ1 _ _ (S_ ?_);clear hQ1 Q1
    refine g_ [5,7,34] ?_
    refine c_ (fun hc3 => ?_) fun hc3 => ?_
    ·
      refine n_ ?_
      refine wpM_regionK [5,7] rfl fun Q1 hQ1 => ?_
      simp -implicitDefEqProofs (disch := omega) only [go_sem, hg']
      refine hQ1 _ _ (S_ ?_);clear hQ1 Q1
      refine n_ ?_
      refine wpM_regionK [4] rfl fun Q1 hQ1 => ?_
      simp -implicitDefEqProofs (disch := omega) only [go_sem, hg]
      refine hQ1 _ _ (S_ ?_);clear hQ1 Q1
      refine e_ Tryz.results137 ?_
      first
      | exact True.intro
      | rw [fmtS, if_neg (by omega), if_pos h0, hnd]
    exfalso; omega
  exfalso; omega
theorem fmt0_ok (u : Int) (h0 : 0 ≤ u) (h1 : u ≤ 1000000) : PureF Tryz.prog 140 [.rows 5 [], .int .u64 u] [] := by
  refine pureF_of Tryz.func140 rfl Tryz.ntmps140 (by simp) T_ ?_
  intro f0 B Q hQ
  refine g_ [0,1,4] ?_
  refine n_ ?_
  refine wpM_loopS (fun s r s' => s' = s) (0) ?_ ?_
  ·
    refine .of' _ _ rfl ?_ ?_ ?_
    all_goals exact L_
  rintro r s' rfl
  try refine S_ ?_
  refine g_ [0,1,4,20] ?_
  refine c_ (fun hc0 => ?_) fun hc0 => ?_
  · exfalso; omega
  refine n_ ?_
  refine wpM_regionK [0,4,12] rfl fun Q1 hQ1 => ?_
  simp -implicitDefEqProofs (disch := omega) only [go_sem, u32w]
  refine hQ1 _ _ (S_ ?_);clear hQ1 Q1
  refine g_ [0,4,12,99] ?_
  refine c_ (fun hc1 => ?_) fun hc1 => ?_
  · exfalso; omega
  refine g_ [0,4,12,139] ?_
  refine c_ (fun hc2 => ?_) fun hc2 => ?_
  · exfalso; omega
  refine g_ [0,12,161] ?_
  refine c_ (fun hc3 => ?_) fun hc3 => ?_
  · exfalso; omega
  exact e_ Tryz.results140 True.intro
theorem fmtNeg0_ok (n : Int) (h0 : n < 0) (h1 : -1000000 ≤ n) (hp : ndT (-n) = 0) : PureF Tryz.prog 137 [.int .i64 n, .int .i64 10] [.str (fmtS n)] := by
  have hg : (zs24.set 0 45).length = 24 := rfl
  have hz : zs24.length = 24 := rfl
  have hw : IntKind.u64.wrap n = n + 18446744073709551616 := by
    show n % 18446744073709551616 = _
    omega
  have hw2 : IntKind.u64.wrap (0 - (n + 18446744073709551616)) = -n := by
    show (0 - (n + 18446744073709551616)) % 18446744073709551616 = _
    omega
  refine pureF_of Tryz.func137 rfl Tryz.ntmps137 (by simp) T_ ?_
  intro f0 B Q hQ
  refine g_ [0,1] ?_
  refine g_ [0,1,11] ?_
  refine c1_ ?_
  refine gD_ [0,17] ?_
  refine c_ (fun hc1 => ?_) fun hc1 => ?_
  · exfalso; simp at hc1; omega
  refine g_ [0,5] ?_
  rw [zs24_eq]
  refine n_ ?_
  refine wpM_regionK [0,5,6] rfl fun Q1 hQ1 => ?_
  simp -implicitDefEqProofs (disch := omega) only [go_sem, hw]
  refine hQ1 _ _ (S_ ?_);clear hQ1 Q1
  refine g_ [0,5,6,23] ?_
  refine c_ (fun hc2 => ?_) fun hc2 => ?_
  ·
    refine wpM_regionK [0,5,6] rfl fun Q1 hQ1 => ?_
    simp -implicitDefEqProofs (disch := omega) only [go_sem, hw2]
    refine hQ1 _ _ (S_ ?_);clear hQ1 Q1
    refine n_ ?_
    refine wpM_regionK [0,5,6,7] rfl fun Q1 hQ1 => ?_
    refine S_ ?_
    refine cp_ (numDigits_ok (-n) (by omega) (by omega)) Tryz.call139 ?_
    refine hQ1 _ _ (S_ ?_);clear hQ1 Q1
    rw [hp]
    refine n_ ?_
    refine wpM_regionK [0,5,7] rfl fun Q1 hQ1 => ?_
    simp -implicitDefEqProofs (disch := omega) only [go_sem, hz]
    refine call_p (fmt0_ok (-n) (by omega) (by omega)) Tryz.call140 rfl rfl rfl (by first | rfl | (simp -implicitDefEqProofs (disch := omega) only [go_sem] <;> rfl)) ?_
    simp -implicitDefEqProofs (disch := omega) only [go_sem, hz]
    refine hQ1 _ _ (S_ ?_);clear hQ1 Q1
    refine g_ [5,7,34] ?_
    refine c_ (fun hc3 => ?_) fun hc3 => ?_
    ·
      refine n_ ?_
      refine wpM_regionK [5,7] rfl fun Q1 hQ1 => ?_
      simp -implicitDefEqProofs (disch := omega) only [go_sem, hz]
      refine hQ1 _ _ (S_ ?_);clear hQ1 Q1
      refine n_ ?_
      refine wpM_regionK [4] rfl fun Q1 hQ1 => ?_
      simp -implicitDefEqProofs (disch := omega) only [go_sem, hg]
      refine hQ1 _ _ (S_ ?_);clear hQ1 Q1
      refine e_ Tryz.results137 ?_
      first
      | exact True.intro
      | have e : g4 zs24 0 (-n) = zs24 := by unfold g4 g2; simp
        rw [fmtS, if_neg (by omega), if_pos h0, hp, e]
        rfl
    exfalso; omega
  exfalso; omega
theorem txt_size (l : List UInt8) : (txt l).size = l.length := by simp [txt, ByteArray.size]
theorem fmtS_size (n : Int) : (fmtS n).size ≤ 24 := by
  unfold fmtS
  split
  · rename_i h
    have := smallS_size n h.1
    omega
  · split
    · rw [txt_size]
      have : ((g4 zs24 (ndT (-n)) (-n)).set 0 45).length = 24 := by rw [List.length_set]; exact g4_len zs24 _ _
      simp only [List.length_map, List.length_take, List.length_drop]; omega
    · rw [txt_size]
      have : (g4 zs24 (ndT n) n).length = 24 := g4_len zs24 _ _
      simp only [List.length_map, List.length_take, List.length_drop]; omega
theorem fmtInt_ok (n : Int) (h0 : -1000000 ≤ n) (h1 : n ≤ 1000000) : PureF Tryz.prog 137 [.int .i64 n, .int .i64 10] [.str (fmtS n)] := by
  by_cases a : n < 0
  · have := ndT_rng (-n) (by omega) (by omega)
    by_cases b : ndT (-n) = 0
    · exact fmtNeg0_ok n a h0 b
    · exact fmtNeg_ok n a h0 (by omega)
  · by_cases b : n < 100
    · exact fmtSmall_ok n (by omega) b
    · exact fmtPos_ok n (by omega) h1
theorem itoaI_ok (n : Int) (h0 : -1000000 ≤ n) (h1 : n ≤ 1000000) : PureF Tryz.prog 136 [.int .i64 n] [.str (fmtS n)] := by
  refine pureF_of Tryz.func136 rfl Tryz.ntmps136 (by simp) T_ ?_
  intro f0 B Q hQ
  refine g_ [0] ?_
  refine n_ ?_
  refine wpM_regionK [2] rfl fun Q1 hQ1 => ?_
  refine S_ ?_
  refine cp_ (fmtInt_ok n h0 h1) Tryz.call137 ?_
  refine hQ1 _ _ (S_ ?_);clear hQ1 Q1
  exact e_ Tryz.results136 True.intro
theorem itoa_ok (n : Int) (h0 : -1000000 ≤ n) (h1 : n ≤ 1000000) : PureF Tryz.prog 135 [.int .i64 n] [.str (fmtS n)] := by
  refine pureF_of Tryz.func135 rfl Tryz.ntmps135 (by simp) T_ ?_
  intro f0 B Q hQ
  refine g_ [0] ?_
  refine n_ ?_
  refine wpM_regionK [2] rfl fun Q1 hQ1 => ?_
  refine S_ ?_
  refine cp_ (itoaI_ok n h0 h1) Tryz.call136 ?_
  refine hQ1 _ _ (S_ ?_);clear hQ1 Q1
  exact e_ Tryz.results135 True.intro
end Go.Proofs.YtmicbfojofcigaaGreat
namespace Go.Proofs.YtmicbfojofcigaaGreat
open Go Sg
set_option maxRecDepth 100000
set_option linter.unusedSimpArgs false
set_option linter.unusedVariables false
set_option linter.unusedSectionVars false
set_option maxHeartbeats 4000000
variable [Tab]
def strC (l : List ByteArray) : List PV := l.map .str
def strR (l : List ByteArray) : List (List PV) := l.map fun s => [.str s]
@[go_sem] theorem strC_len (l : List ByteArray) : (strC l).length = l.length := by simp [strC]
@[go_sem] theorem strR_len (l : List ByteArray) : (strR l).length = l.length := by simp [strR]
@[go_sem] theorem strR_flat (l : List ByteArray) : (strR l).flatten = strC l := by
  induction l with
  | nil => rfl
  | cons x l ih => simp only [strR, strC, List.map_cons, List.flatten_cons] at ih ⊢; rw [ih]; rfl
@[go_sem] theorem strR_get (l : List ByteArray) (k : Nat) (h : k < l.length) : (strR l).getD k [] = [.str (l.getD k default)] := by simp [strR, List.getD, h]
@[go_sem] theorem strC_app (l : List ByteArray) (x : ByteArray) : strC l ++ [.str x] = strC (l ++ [x]) := by simp [strC]
theorem rowsOf_str {f : Nat → Option AObj} {id n : Nat} {T : TypeId} {l : List ByteArray} (h : f id = some (.cells T (strC l))) (hn : l.length = n) : RowsOf Tryz.prog f 9 id 0 n (strR l) := by
  subst hn
  refine ⟨by rw [cellsOf9]; omega, by simp [strR], ?_, T, _, h, ?_, ?_⟩
  · intro c hc
    simp only [strR, List.mem_map] at hc
    obtain ⟨x, _, rfl⟩ := hc
    rw [cellsOf9]; exact ⟨rfl, rfl⟩
  · rw [cellsOf9]; simp [strC]
  · rw [cellsOf9, strR_flat]; simp [strC, List.take_of_length_le]
def letS (k : Int) : ByteArray := ByteArray.extract ⟨#[32, 105, 111, 118]⟩ k.toNat (k + 1).toNat
theorem letS_size (k : Int) (h : 1 ≤ k ∧ k ≤ 3) : (letS k).size ≤ 4 := by
  simp [letS]; omega
theorem letter_ok (a : AD) (h : a.ok = true) : PureF Tryz.prog 128 [.agg a.cs] [.str (letS a.kind)] := by
  have hk : 1 ≤ a.kind ∧ a.kind ≤ 3 ∧ 0 ≤ a.at' ∧ a.at' < 6 := by simp only [AD.ok, Bool.and_eq_true, decide_eq_true_eq] at h; omega
  have h4 : (⟨#[32, 105, 111, 118]⟩ : ByteArray).size = 4 := rfl
  refine pureF_of Tryz.func128 rfl Tryz.ntmps128 (by simp) T_ ?_
  intro f0 B Q hQ
  refine g_ [1] ?_
  refine n_ ?_
  refine wpM_regionK [2] rfl fun Q1 hQ1 => ?_
  simp -implicitDefEqProofs (disch := omega) only [go_sem, h4]
  refine hQ1 _ _ (S_ ?_);clear hQ1 Q1
  refine e_ Tryz.results128 ?_
  first
  | exact True.intro
  | rfl
def adrS (a : AD) : ByteArray := letS a.kind ++ fmtS a.at'
theorem add_str (x y : ByteArray) (h : x.size + y.size ≤ 1000000) : strOpA .add x y = some (.str (x ++ y)) := by
  simp only [strOpA]
  rw [if_pos (by omega)]
theorem bin_adds {P : Program} (t : TypeId) (x y : Operand) (a c : ByteArray) (h : a.size + c.size ≤ 1000000) : binOpA P .add t x y (.str a) (.str c) = some (.str (a ++ c)) := by
  simp only [binOpA]; exact add_str a c h
theorem addrText_ok (a : AD) (h : a.ok = true) : PureF Tryz.prog 154 [.agg a.cs] [.str (adrS a)] := by
  have hk : 1 ≤ a.kind ∧ a.kind ≤ 3 ∧ 0 ≤ a.at' ∧ a.at' < 6 := by simp only [AD.ok, Bool.and_eq_true, decide_eq_true_eq] at h; omega
  have h1 := letS_size a.kind ⟨hk.1, hk.2.1⟩
  have h2 := fmtS_size a.at'
  refine pureF_of Tryz.func154 rfl Tryz.ntmps154 (by simp) T_ ?_
  intro f0 B Q hQ
  refine g_ [1] ?_
  refine n_ ?_
  refine wpM_regionK [1,5] rfl fun Q1 hQ1 => ?_
  refine S_ ?_
  refine call_p (iaddrOk_ok a) Tryz.call96 rfl rfl rfl (by first | rfl | (simp -implicitDefEqProofs (disch := omega) only [go_sem] <;> rfl)) ?_
  simp -implicitDefEqProofs (disch := omega) only [go_sem, h]
  refine hQ1 _ _ (S_ ?_);clear hQ1 Q1
  refine c1_ ?_
  refine n_ ?_
  refine dr_ mixed [2] 0 1 [B] [⟨[1],[0],[],[],false⟩,⟨[6],[],[],[],true⟩,⟨[1],[],[],[],false⟩,⟨[8],[0],[],[],false⟩,⟨[9],[],[],[],true⟩,⟨[7,10],[],[],[],false⟩,⟨[11],[],[],[],false⟩] [0,2,3,1,4,5,6] [[],[0],[],[2],[0,1,2,3],[0,1,2,3,4],[0,1,2,3,4,5]] 1 ?_
  intro O A K hO hA hK;simp only [atL_cons,atL_nil,Nat.reduceAdd,Nat.zero_add] at hO hA
  simp -implicitDefEqProofs (disch := omega) only [go_sem, bin_adds, hO, hA]
  refine loud_p (letter_ok a h) Tryz.call128 rfl rfl (by first | rfl | (simp -implicitDefEqProofs (disch := omega) only [go_sem] <;> rfl)) rfl ?_
  simp -implicitDefEqProofs (disch := omega) only [go_sem, bin_adds, hO, hA]
  refine loud_p (itoa_ok a.at' (by omega) (by omega)) Tryz.call135 rfl rfl (by first | rfl | (simp -implicitDefEqProofs (disch := omega) only [go_sem] <;> rfl)) rfl ?_
  simp -implicitDefEqProofs (disch := omega) only [go_sem, bin_adds, hO, hA]
  refine hK _ (S_ ?_);clear hK K hO hA O A
  refine e_ Tryz.results154 ?_
  first
  | exact True.intro
  | rfl
theorem word1_ok (e : Ex) (h : isNum e.n = true) : PureF Tryz.prog 134 [.agg [], .agg e.cs] [.str (fmtS e.n)] := by
  have hn : -1000000 ≤ e.n ∧ e.n ≤ 1000000 := by simp [isNum] at h; omega
  refine pureF_of Tryz.func134 rfl Tryz.ntmps134 (by simp) T_ ?_
  intro f0 B Q hQ
  refine g_ [3] ?_
  refine n_ ?_
  refine wpM_regionK [4] rfl fun Q1 hQ1 => ?_
  refine S_ ?_
  refine cp_ (itoa_ok e.n hn.1 hn.2) Tryz.call135 ?_
  refine hQ1 _ _ (S_ ?_);clear hQ1 Q1
  exact e_ Tryz.results134 True.intro
theorem word2_ok (e : Ex) (h : e.a.ok = true) : PureF Tryz.prog 152 [.agg [], .agg e.cs] [.str (adrS e.a)] := by
  refine pureF_of Tryz.func152 rfl Tryz.ntmps152 (by simp) T_ ?_
  intro f0 B Q hQ
  refine g_ [3] ?_
  refine n_ ?_
  refine wpM_regionK [4] rfl fun Q1 hQ1 => ?_
  refine S_ ?_
  refine cp_ (addrText_ok e.a h) Tryz.call154 ?_
  refine hQ1 _ _ (S_ ?_);clear hQ1 Q1
  exact e_ Tryz.results152 True.intro
def notS : ByteArray := ⟨#[110, 111, 116]⟩
theorem word4_ok (e : Ex) : PureF Tryz.prog 172 [.agg [], .agg e.cs] [.str notS] := by
  refine pureF_of Tryz.func172 rfl Tryz.ntmps172 (by simp) T_ ?_
  intro f0 B Q hQ
  refine g_ [] ?_
  refine g_ [4] ?_
  refine e_ Tryz.results172 ?_
  first
  | exact True.intro
  | rfl
def twoL : List ByteArray := [⟨#[]⟩, ⟨#[]⟩, ⟨#[]⟩, ⟨#[97, 100, 100]⟩, ⟨#[115, 117, 98]⟩, ⟨#[109, 117, 108]⟩, ⟨#[108, 101, 115, 115]⟩, ⟨#[115, 97, 109, 101]⟩, ⟨#[97, 110, 100]⟩, ⟨#[111, 114]⟩]
theorem twoWords_ok : PureF Tryz.prog 161 [] [.rows 9 (strR twoL)] := by
  refine pureF_of Tryz.func161 rfl Tryz.ntmps161 (by simp) T_ ?_
  intro f0 B Q hQ
  have hr : rep 10 [PV.str ⟨#[]⟩] = [.str ⟨#[]⟩, .str ⟨#[]⟩, .str ⟨#[]⟩, .str ⟨#[]⟩, .str ⟨#[]⟩, .str ⟨#[]⟩, .str ⟨#[]⟩, .str ⟨#[]⟩, .str ⟨#[]⟩, .str ⟨#[]⟩] := rfl
  refine g_ [] ?_
  refine n_ ?_
  refine wpM_regionK [0] rfl fun Q1 hQ1 => ?_
  simp -implicitDefEqProofs (disch := omega) only [go_sem, hr, splice, List.take_succ_cons, List.take_zero, List.drop_succ_cons, List.drop_zero, List.cons_append, List.nil_append, List.length_cons, List.length_nil]
  refine hQ1 _ _ (S_ ?_);clear hQ1 Q1
  rw [show [PV.str ⟨#[]⟩, .str ⟨#[]⟩, .str ⟨#[]⟩, .str ⟨#[97, 100, 100]⟩, .str ⟨#[115, 117, 98]⟩, .str ⟨#[109, 117, 108]⟩, .str ⟨#[108, 101, 115, 115]⟩, .str ⟨#[115, 97, 109, 101]⟩, .str ⟨#[97, 110, 100]⟩, .str ⟨#[111, 114]⟩] = strC twoL from rfl]
  refine wpM_frz [B] [(9, B, 0, 10, strR twoL)] (by intro q hq; simp at hq; subst hq; simp -implicitDefEqProofs (disch := omega) only [go_sem]) (by intro q hq; simp only [List.mem_cons, List.not_mem_nil, or_false] at hq; subst hq; exact ⟨by simp, rowsOf_str (T := 9) T_ rfl⟩) ?_
  refine S_ ?_
  exact e_ Tryz.results161 True.intro
theorem word3_ok (e : Ex) (h : isTwo e.kind = true) : PureF Tryz.prog 159 [.agg [], .agg e.cs] [.str (twoL.getD e.kind.toNat default)] := by
  have hk : 3 ≤ e.kind ∧ e.kind ≤ 9 := by simp [isTwo] at h; omega
  refine pureF_of Tryz.func159 rfl Tryz.ntmps159 (by simp) T_ ?_
  intro f0 B Q hQ
  have h10 : twoL.length = 10 := rfl
  refine g_ [3] ?_
  refine n_ ?_
  refine dr_ mixed [4] 0 1 [B + 1] [⟨[],[],[],[],true⟩,⟨[3],[],[],[],false⟩,⟨[6],[0],[],[],false⟩,⟨[5,7],[],[],[],false⟩,⟨[8],[],[],[],false⟩,⟨[9],[],[],[],false⟩] [1,2,0,3,4,5] [[],[],[1],[0,1,2],[0,1,2,3],[0,1,2,3,4]] 1 ?_
  intro O A K hO hA hK;simp only [atL_cons,atL_nil,Nat.reduceAdd,Nat.zero_add] at hO hA
  simp -implicitDefEqProofs (disch := omega) only [go_sem, h10, hO, hA]
  refine loud_p (twoWords_ok) Tryz.call161 rfl rfl (by first | rfl | (simp -implicitDefEqProofs (disch := omega) only [go_sem] <;> rfl)) rfl ?_
  simp -implicitDefEqProofs (disch := omega) only [go_sem, h10, hO, hA]
  refine hK _ (S_ ?_);clear hK K hO hA O A
  refine e_ Tryz.results159 ?_
  first
  | exact True.intro
  | rfl
end Go.Proofs.YtmicbfojofcigaaGreat
namespace Go.Proofs.YtmicbfojofcigaaGreat
open Go Sg
set_option maxRecDepth 100000
set_option linter.unusedSimpArgs false
set_option linter.unusedVariables false
set_option linter.unusedSectionVars false
set_option maxHeartbeats 4000000
variable [Tab]
def wordS (e : Ex) : ByteArray := if e.kind == 1 then fmtS e.n else if e.kind == 2 then adrS e.a else if isTwo e.kind then twoL.getD e.kind.toNat default else notS
mutual
def wsE : Ex → List ByteArray
  | .mk k n a l => wordS (.mk k n a l) :: wsL l
def wsL : List Ex → List ByteArray
  | [] => []
  | e :: l => wsE e ++ wsL l
end
theorem wsE_eq (e : Ex) : wsE e = wordS e :: wsL e.kids := by cases e; rfl
theorem wsL_app (l l' : List Ex) : wsL (l ++ l') = wsL l ++ wsL l' := by
  induction l with
  | nil => rfl
  | cons x l ih => simp only [List.cons_append, wsL, ih, List.append_assoc]
theorem wsL_take (l : List Ex) (i : Nat) (h : i < l.length) : wsL (l.take (i + 1)) = wsL (l.take i) ++ wsE (l.getD i default) := by
  rw [List.take_succ_eq_append_getElem h, wsL_app]
  simp [wsL, List.getD, h]
theorem rec_word (e : Ex) (hn : recNil e.kind = false) (hs : shapeR e = true) : ∃ t fk, recOf e.kind = .iface t (.agg []) ∧
    (∀ args w, (callFunc fk args).run Tryz.prog w = .ok (.enter fk args) w) ∧ (∀ (v : Value) w, (method (Tryz.prog.types.size + Made.depth) t v "loop.example/stopgate/impl.word").run Tryz.prog w = .ok (fk, v) w) ∧ PureF Tryz.prog fk [.agg [], .agg e.cs] [.str (wordS e)] := by
  by_cases h1 : e.kind = 1
  · refine ⟨95, 134, by simp [recOf, h1], Tryz.call134, method_run info95 Tryz.underlying95 (by simp) (by rfl) rfl rfl, ?_⟩
    rw [show wordS e = fmtS e.n by simp [wordS, h1]]
    exact word1_ok e (by simp [shapeR, h1] at hs; exact hs.1)
  by_cases h2 : e.kind = 2
  · refine ⟨96, 152, by simp [recOf, h2], Tryz.call152, method_run info96 Tryz.underlying96 (by simp) (by rfl) rfl rfl, ?_⟩
    rw [show wordS e = adrS e.a by simp [wordS, h2]]
    exact word2_ok e (by simp [shapeR, h2] at hs; exact hs.1)
  by_cases h3 : isTwo e.kind = true
  · refine ⟨97, 159, by simp [recOf, h1, h2, h3], Tryz.call159, method_run info97 Tryz.underlying97 (by simp) (by rfl) rfl rfl, ?_⟩
    rw [show wordS e = twoL.getD e.kind.toNat default by simp [wordS, h1, h2, h3]]
    exact word3_ok e h3
  have h10 : e.kind = 10 := by
    simp only [Bool.not_eq_true] at h3
    simpa [recNil, h1, h2, h3] using hn
  refine ⟨98, 172, by simp [recOf, h10]; decide, Tryz.call172, method_run info98 Tryz.underlying98 (by simp) (by rfl) rfl rfl, ?_⟩
  rw [show wordS e = notS by simp [wordS, h10]; decide]
  exact word4_ok e
def wdRec (x b d fn : Nat) (fv : PV) (asg body : Code) (st : LoopState) (pe : Option Code) : AObj := .loop b d st pe fn 19 [(3, .ptr (x + 1) 0), (7, fv)] #[8, 9] asg body
@[go_sem] theorem wdRec_eq (x b d fn : Nat) (fv : PV) (asg body : Code) (st : LoopState) (pe : Option Code) : wdRec x b d fn fv asg body st pe = .loop b d st pe fn 19 [(3, .ptr (x + 1) 0), (7, fv)] #[8, 9] asg body := rfl
def wdSt (x : Nat) (rc : AObj) (b n y : Nat) (ws : List ByteArray) : List (Nat × AObj) :=
  [(x + 7, .cells 3 [.int .i64 (n : Int)]), (x + 5, rc), (y, .cells 9 (strC ws)), (x + 1, .cells 62 [.sl 9 y 0 ws.length]),
   (x + 6, .cells 93 [.fn (.yield b) [] []]), (x + 8, .cells 52 [.fn (.func 57) [] [.ptr (x + 7) 0, .ptr (x + 6) 0, .ptr (x + 8) 0]])]
@[go_sem] theorem wdSt_eq (x : Nat) (rc : AObj) (b n y : Nat) (ws : List ByteArray) : wdSt x rc b n y ws = [(x + 7, .cells 3 [.int .i64 (n : Int)]), (x + 5, rc), (y, .cells 9 (strC ws)), (x + 1, .cells 62 [.sl 9 y 0 ws.length]),
   (x + 6, .cells 93 [.fn (.yield b) [] []]), (x + 8, .cells 52 [.fn (.func 57) [] [.ptr (x + 7) 0, .ptr (x + 6) 0, .ptr (x + 8) 0]])] := rfl
def wdQ (x b d fn : Nat) (fv : PV) (asg body : Code) (e : Ex) (deep cnt : Nat) (ws : List ByteArray) (f0 : Nat → Option AObj) (B : Nat) (ex : ExitA) (s : MS) : Prop :=
  ex = .ret ∧ ∃ cnt' y' M' ws', vis e deep cnt = some cnt' ∧ cnt' ≤ 14 ∧ B ≤ y' ∧ y' < M' ∧ B ≤ M' ∧ ws' = ws ++ wsE e ∧ ws'.length = cnt' ∧ s = ⟨[(7, .bool true)], wdSt x (wdRec x b d fn fv asg body .ready none) b cnt' y' ws', f0, B, M', []⟩
theorem walkW_ok (x b d fn : Nat) (fv : PV) (asg body c : Code) (hcode : Tryz.f32.body.map rfs = some [(asg, body)]) (hc : Tryz.f57.body = some c) : ∀ (N : Nat) (e : Ex), e.sz ≤ N → e.sz ≤ 1099511627776 →
    ∀ (deep cnt y : Nat) (ws : List ByteArray) (dI : Int) (f0 : Nat → Option AObj) (B : Nat), dI = (deep : Int) → x + 9 ≤ B → (y = x + 2 ∨ x + 9 ≤ y) → y < B → f0 y = none → deep ≤ 6 → cnt ≤ 14 → ws.length = cnt → (vis e deep cnt).isSome = true →
      wpM Tryz.prog none 39 c ⟨envOf 0 [.agg e.cs, .int .i64 dI, .ptr (x + 7) 0, .ptr (x + 6) 0, .ptr (x + 8) 0], wdSt x (wdRec x b d fn fv asg body .ready none) b cnt y ws, f0, B, B, []⟩ (wdQ x b d fn fv asg body e deep cnt ws f0 B) := by
  have hcode' := Option.some.inj hcode
  simp only [rfs, List.nil_append, List.append_nil, List.cons.injEq, Prod.mk.injEq, and_true] at hcode'
  obtain ⟨hasg, hbody⟩ := hcode'
  obtain rfl : _ = c := Option.some.inj hc
  intro N
  induction N with
  | zero => intro e h; have := e.sz_pos; omega
  | succ N ih =>
    intro e hN hs deep cnt y ws dI f0 B hdI hB hy hyB hfy hd hcn hws hvis
    have hlen := e.kids_len
    have hbad : badE ((cnt : Int) + 1) (deep : Int) e = false := by
      rw [vis_eq] at hvis
      cases h : badE ((cnt : Int) + 1) (deep : Int) e with
      | false => rfl
      | true => rw [h] at hvis; simp at hvis
    have hvk : (visL e.kids (deep + 1) (cnt + 1)).isSome = true := by rw [vis_eq, hbad] at hvis; simpa using hvis
    have hb2 := hbad
    simp only [badE, Bool.or_eq_false_iff] at hb2
    obtain ⟨⟨⟨⟨hg1, hg2⟩, hrn⟩, _⟩, hsh⟩ := hb2
    have hsh' : shapeR e = true := by simpa using hsh
    have hg2' : deep < 6 := by simp at hg2; omega
    have hg1' : cnt + 1 ≤ 14 := by simp at hg1; omega
    obtain ⟨rt, fk, hr, q1, q2, q3⟩ := rec_word e hrn hsh'
    have hdel : okDel B f0 [(y, none)] = True := by simp [okDel, hfy]
    rw [← hdI] at hg2
    refine wpM_wk ?_
    refine g_ [1,2,3,4,5] ?_
    refine g_ [1,2,3,4,5] ?_
    refine n_ ?_
    refine wpM_regionK [1,4,5,24] rfl fun Q1 hQ1 => ?_
    refine S_ ?_
    refine OpM_roundK (x + 5) rfl rfl rfl rfl (by simp -implicitDefEqProofs (disch := omega) only [go_sem]; rfl) rfl rfl ?_
    intro K' hK'
    refine wpM_code hasg ?_
    simp -implicitDefEqProofs (disch := omega) only [go_sem]
    refine g_ [3,5] ?_
    refine ⟨d, none, fn, 19, [(3, .ptr (x + 1) 0), (7, fv)], #[8, 9], asg, body, rfl, ?_⟩
    refine wpM_code hbody ?_
    refine n_ ?_
    refine dr_ mixed [] 2 3 [x + 1, B + 1, y, B + 2, B + 3] [⟨[3],[0],[],[],false⟩,⟨[5],[],[],[],false⟩,⟨[11],[1],[],[],false⟩,⟨[12],[],[],[],true⟩,⟨[5],[1],[],[],false⟩,⟨[13,14],[],[],[],true⟩,⟨[15],[],[],[3],false⟩,⟨[10,16],[2,3],[2],[4],false⟩,⟨[3,17],[0],[0],[],false⟩] [0,1,2,4,3,5,6,7,8] [[],[],[1],[1,2],[],[1,2,3,4],[1,2,3,4,5],[0,1,2,3,4,5,6],[0,1,2,3,4,5,6,7]] 5 (htbl := by simp; omega) (hnm := by simp) ?_
    intro O A K hO hA hK;simp only [atL_cons,atL_nil,Nat.reduceAdd,Nat.zero_add] at hO hA
    simp -implicitDefEqProofs (disch := omega) only [go_sem, hdel, hO, hA]
    refine loud_p (recOf_ok e.kind) Tryz.call31 rfl rfl (by first | rfl | (simp -implicitDefEqProofs (disch := omega) only [go_sem] <;> rfl)) rfl ?_
    simp -implicitDefEqProofs (disch := omega) only [go_sem, hdel, hO, hA]
    refine loudi_p (args := [.agg e.cs]) q3 q1 q2 rfl (by simp -implicitDefEqProofs (disch := omega) only [go_sem, hr]) T_ rfl ?_
    simp -implicitDefEqProofs (disch := omega) only [go_sem, hdel, hO, hA]
    refine hK _ (S_ ?_);clear hK K hO hA O A
    rw [show ws.length + 1 = (ws ++ [wordS e]).length by simp]
    generalize hW : ws ++ [wordS e] = W
    have hWl : W.length = cnt + 1 := by rw [← hW]; simp [hws]
    refine ⟨d, .busy, none, fn, 19, [(3, .ptr (x + 1) 0), (7, fv)], #[8, 9], asg, body, by simp -implicitDefEqProofs (disch := omega) only [go_sem], ?_⟩
    refine hK' _ ?_; clear hK' K'
    simp -implicitDefEqProofs (disch := omega) only [go_sem, hg1, hg2]
    refine hQ1 _ _ (S_ ?_);clear hQ1 Q1
    refine c1_ ?_
    refine g_ [1,4,26,27,28] ?_
    refine n_ ?_
    refine wpM_loopS (fun s n s' => ∃ (i M ci Y : Nat) (W2 : List ByteArray), i + n = e.kids.length ∧ B + 4 ≤ M ∧ visL (e.kids.take i) (deep + 1) (cnt + 1) = some ci ∧ ci ≤ 14 ∧ B + 2 ≤ Y ∧ Y < M ∧ W2 = W ++ wsL (e.kids.take i) ∧ W2.length = ci ∧ s' = { s with env := setE 28 (.int .i64 (i : Nat)) s.env, l := wdSt x (wdRec x b d fn fv asg body .ready none) b ci Y W2 ++ [(B, .cells 27 e.cs)], M := M }) (e.kids.length) ?_ ?_
    ·
      refine .of' _ _ ⟨0, _, cnt + 1, B + 3, W, by omega, ?_, rfl, hg1', by omega, ?_, by simp [wsL], hWl, rfl⟩ ?_ ?_ ?_
      · first | omega | (simp -implicitDefEqProofs (disch := omega) only [go_sem]; done)
      · first | omega | (simp -implicitDefEqProofs (disch := omega) only [go_sem]; done) | (simp -implicitDefEqProofs (disch := omega) only [go_sem]; omega)
      all_goals exact L_
    rintro n s' ⟨i, M, ci, Y, W2, hi, hM, hv, hci, hY1, hY2, hW2, hW2l, rfl⟩
    try refine S_ ?_
    refine g_ [1,4,26,27,28,29] ?_
    refine c_ (fun hc1 => ?_) fun hc1 => ?_
    ·
      have hl0 : i < e.kids.length := by omega
      have hks := Ex.kid_sz hl0
      have hv1 : (vis (e.kids.getD i default) (deep + 1) ci).isSome = true := by
        have hx : visL e.kids (deep + 1) (cnt + 1) = (visL (e.kids.take (i + 1)) (deep + 1) (cnt + 1)).bind (visL (e.kids.drop (i + 1)) (deep + 1)) := by
          conv => lhs; rw [← List.take_append_drop (i + 1) e.kids]
          exact visL_append _ _ _ _
        rw [visL_take _ _ _ _ hl0, hv] at hx
        cases h : vis (e.kids.getD i default) (deep + 1) ci with
        | some _ => rfl
        | none =>
          simp only [Option.bind_some, h, Option.bind_none] at hx
          rw [hx] at hvk; exact hvk
      refine g_ [1,4,9,26,27,28] ?_
      refine n_ ?_
      refine wpM_regionK [1,4,26,27,28,37] rfl fun Q1 hQ1 => ?_
      refine S_ ?_
      refine OpM_inlineK (first := []) (ps := [.agg (e.kids.getD i default).cs, .int .i64 (dI + 1)]) (cap := [.ptr (x + 7) 0, .ptr (x + 6) 0, .ptr (x + 8) 0]) Tryz.func57 rfl Tryz.ntmps57 (by simp) Tryz.call57 rfl rfl F_ F_ ?_
      intro K' hK'
      refine wpM_frameC (wdSt x (wdRec x b d fn fv asg body .ready none) b ci Y W2) [(M, .cells 27 (e.kids.getD i default).cs), (B, .cells 27 e.cs)] T_ T_ T_ (by simp -implicitDefEqProofs (disch := omega) only [go_sem, true_or, or_true]) T_ ?_
      intro f1
      have hf1 : cutL (wdSt x (wdRec x b d fn fv asg body .ready none) b ci Y W2) f1 Y = none := by
        have h1 : ¬ (x + 7 = Y) := by omega
        have h2 : ¬ (x + 5 = Y) := by omega
        simp [cutL, wdSt, lk, h1, h2]
      generalize cutL (wdSt x (wdRec x b d fn fv asg body .ready none) b ci Y W2) f1 = F1 at *
      refine wpM_mono (ih (e.kids.getD i default) (by omega) (by omega) (deep + 1) ci Y W2 (dI + 1) F1 (M + 1) (by rw [hdI]; rfl) (by omega) (by omega) (by omega) hf1 (by omega) hci hW2l hv1) ?_
      rintro ex s' ⟨rfl, cnt', y', M', ws', h1, h2, h3, h4, h5, h6, h7, rfl⟩
      refine ⟨rfl, rfl, T_, (by simp -implicitDefEqProofs (disch := omega) only [go_sem, true_or, or_true]), ?_⟩
      refine ⟨[], rfl, trivial, [.bool true], (by rw [Tryz.results57]; simp -implicitDefEqProofs (disch := omega) only [go_sem]), ?_⟩
      refine hK' _ ?_; clear hK' K'
      have hv2 : visL (e.kids.take (i + 1)) (deep + 1) (cnt + 1) = some cnt' := by rw [visL_take _ _ _ _ hl0, hv]; exact h1
      refine S_ ?_
      refine hQ1 _ _ (S_ ?_);clear hQ1 Q1
      refine c1_ ?_
      refine g_ [1,4,26,27,28] ?_
      refine .of' _ _ ⟨n - 1, by omega, i + 1, _, cnt', y', ws', by omega, ?_, hv2, h2, by omega, h4, by rw [h6, hW2, wsL_take _ _ hl0, List.append_assoc], h7, rfl⟩ ?_ ?_ ?_
      · first | omega | (simp -implicitDefEqProofs (disch := omega) only [go_sem]; done) | (simp -implicitDefEqProofs (disch := omega) only [go_sem]; omega)
      all_goals exact L_
    refine g_ [7] ?_
    refine wpM_ret ?_
    try refine S_ ?_
    have hie : i = e.kids.length := by omega
    rw [hie, List.take_of_length_le (Nat.le_refl _)] at hv hW2
    refine .of' _ _ ⟨rfl, ci, Y, _, W2, ?_, hci, by omega, ?_, ?_, ?_, hW2l, rfl⟩ ?_ ?_ ?_
    · rw [vis_eq, hbad]; exact hv
    · first | omega | (simp -implicitDefEqProofs (disch := omega) only [go_sem]; done) | (simp -implicitDefEqProofs (disch := omega) only [go_sem]; omega)
    · first | omega | (simp -implicitDefEqProofs (disch := omega) only [go_sem]; done) | (simp -implicitDefEqProofs (disch := omega) only [go_sem]; omega)
    · rw [hW2, ← hW, wsE_eq, List.append_assoc]; rfl
    all_goals exact L_
theorem wordsOf_ok (e : Ex) (hs : e.sz ≤ 1099511627776) (hv : (vis e 0 0).isSome = true) : PureF Tryz.prog 32 [.agg e.cs] [.rows 9 (strR (wsE e))] := by
  refine pureF_ofM Tryz.func32 rfl Tryz.ntmps32 (by simp) T_ ?_
  intro f0 B Q hQ
  obtain ⟨asg, body, hcode⟩ : ∃ asg body, Tryz.f32.body.map rfs = some [(asg, body)] := ⟨_, _, rfl⟩
  have hcode' := Option.some.inj hcode
  simp only [rfs, List.nil_append, List.append_nil, List.cons.injEq, Prod.mk.injEq, and_true] at hcode'
  obtain ⟨hasg, hbody⟩ := hcode'
  refine g_ [1,9] ?_
  refine g_ [1,3,9] ?_
  refine wpM_nil 9 [(1, .ptr B 0), (3, .ptr (B + 1) 0)] [(B + 1, .cells 62 [.sl 9 (B + 1 + 1) 0 0]), (B, .cells 27 e.cs)] T_ T_ T_ ?_
  simp -implicitDefEqProofs (disch := omega) only [go_sem]
  refine n_ ?_
  refine wpM_regionK [3,7,9] rfl fun Q1 hQ1 => ?_
  refine S_ ?_
  refine call_fn (l := []) (first := []) (cap := []) (ps := [.agg e.cs]) (parts_ok e) Tryz.call30 rfl rfl rfl T_ T_ ?_
  rintro out ⟨x, hns, rfl⟩
  injection hns with hn1 hns
  subst hn1
  refine S_ ?_
  refine hQ1 _ _ (S_ ?_);clear hQ1 Q1
  refine n_ ?_
  refine wpM_code (c' := Code.rangeFunc (.tmp 7) #[8, 9] asg body) (by rw [← hasg, ← hbody]) ?_
  refine wpM_rangeFunc (first := []) (cap := [.ptr (B + 3) 0]) T_ Tryz.func56 rfl Tryz.ntmps56 (by simp) Tryz.call56 ?_
  intro fn b d
  refine g_ [1,2] ?_
  refine g_ [1,2,3] ?_
  refine g_ [1,2,3,4] ?_
  refine g_ [1,4] ?_
  refine wpM_regionK [] rfl fun Q1 hQ1 => ?_
  refine S_ ?_
  simp -implicitDefEqProofs (disch := omega) only [go_sem, Nat.add_assoc]
  refine OpM_inlineK (first := []) (ps := [.agg e.cs, .int .i64 0]) (cap := [.ptr (B + 7) 0, .ptr (B + 6) 0, .ptr (B + 8) 0]) Tryz.func57 rfl Tryz.ntmps57 (by simp) Tryz.call57 rfl rfl F_ F_ ?_
  intro K' hK'
  refine wpM_frameC (wdSt B (wdRec B b d fn (.fn (.func 56) [] [.ptr (B + 3) 0]) asg body .ready none) b 0 (B + 2) []) [(B + 4, .dfr d), (B + 3, .cells 27 e.cs), (B, .cells 27 e.cs)] (by simp -implicitDefEqProofs (disch := omega) only [go_sem, Int.natCast_zero, strC, List.map_nil, List.length_nil]) T_ T_ (by simp -implicitDefEqProofs (disch := omega) only [go_sem, true_or, or_true]) T_ ?_
  intro f1
  have hf1 : cutL (wdSt B (wdRec B b d fn (.fn (.func 56) [] [.ptr (B + 3) 0]) asg body .ready none) b 0 (B + 2) []) f1 (B + 2) = none := by simp [cutL, wdSt, lk]
  generalize cutL (wdSt B (wdRec B b d fn (.fn (.func 56) [] [.ptr (B + 3) 0]) asg body .ready none) b 0 (B + 2) []) f1 = F1 at *
  refine wpM_mono (walkW_ok B b d fn (.fn (.func 56) [] [.ptr (B + 3) 0]) asg body _ hcode rfl e.sz e (Nat.le_refl _) hs 0 0 (B + 2) [] 0 F1 (B + 9) rfl (by omega) (by omega) (by omega) hf1 (by omega) (by omega) rfl hv) ?_
  rintro ex s' ⟨rfl, cnt', y', M', ws', k1, k2, k3, k4, k5, k6, k7, rfl⟩
  obtain rfl : ws' = wsE e := by simpa using k6
  refine ⟨rfl, rfl, T_, (by simp -implicitDefEqProofs (disch := omega) only [go_sem, true_or, or_true]), ?_⟩
  refine ⟨[], rfl, trivial, [.bool true], (by rw [Tryz.results57]; simp -implicitDefEqProofs (disch := omega) only [go_sem]), ?_⟩
  refine hK' _ ?_; clear hK' K'
  refine S_ ?_
  refine hQ1 _ _ (S_ ?_);clear hQ1 Q1
  refine ⟨[], rfl, trivial, [], (by rw [Tryz.results56]; simp -implicitDefEqProofs (disch := omega) only [go_sem]), ?_⟩
  refine ⟨d, .ready, none, fn, 19, [(3, .ptr (B + 1) 0), (7, .fn (.func 56) [] [.ptr (B + 3) 0])], #[8, 9], asg, body, T_, (by simp), ?_⟩
  simp -implicitDefEqProofs (disch := omega) only [go_sem, Nat.add_assoc]
  refine g_ [2] ?_
  refine wpM_frz [y'] [(9, y', 0, (wsE e).length, strR (wsE e))] (by intro q hq; simp at hq; subst hq; simp -implicitDefEqProofs (disch := omega) only [go_sem]) (by intro q hq; simp only [List.mem_cons, List.not_mem_nil, or_false] at hq; subst hq; exact ⟨by simp, rowsOf_str (T := 9) T_ rfl⟩) ?_
  refine S_ ?_
  refine wpM_ret ?_
  try refine S_ ?_
  refine hQ [B + 4] _ _ rfl rfl rfl ⟨⟨by simp -implicitDefEqProofs (disch := omega) only [go_sem], ⟨d, by simp -implicitDefEqProofs (disch := omega) only [go_sem]⟩, by simp⟩, trivial⟩ (by simp -implicitDefEqProofs (disch := omega) only [go_sem, true_or]) ?_ (.inl rfl)
  rw [Tryz.results32]
  simp -implicitDefEqProofs (disch := omega) only [go_sem]
end Go.Proofs.YtmicbfojofcigaaGreat
namespace Go.Proofs.YtmicbfojofcigaaGreat
open Go Sg
set_option maxRecDepth 100000
set_option linter.unusedSimpArgs false
set_option linter.unusedVariables false
set_option linter.unusedSectionVars false
set_option maxHeartbeats 4000000
variable [Tab]
end Go.Proofs.YtmicbfojofcigaaGreat
namespace Go.Proofs.YtmicbfojofcigaaGreat
open Go Sg
set_option maxRecDepth 100000
set_option linter.unusedSimpArgs false
set_option linter.unusedVariables false
set_option linter.unusedSectionVars false
set_option maxHeartbeats 4000000
variable [Tab]
mutual
theorem wsE_len : (e : Ex) → (wsE e).length = e.sz
  | .mk k n a l => by simp only [wsE, Ex.sz, List.length_cons, wsL_len l]; omega
theorem wsL_len : (l : List Ex) → (wsL l).length = Ex.szL l
  | [] => rfl
  | e :: l => by simp only [wsL, Ex.szL, List.length_append, wsE_len e, wsL_len l]
end
def manyX (e : Ex) : Int := if e.ok then (e.sz : Int) else 0
theorem imanyX_ok (e : Ex) (hs : e.sz ≤ 1000000000) : PureF Tryz.prog 12 [.agg e.cs] [.int .i64 (manyX e)] := by
  refine pureF_of Tryz.func12 rfl Tryz.ntmps12 (by simp) T_ ?_
  intro f0 B Q hQ
  refine g_ [1] ?_
  refine n_ ?_
  refine wpM_regionK [1,5] rfl fun Q1 hQ1 => ?_
  refine S_ ?_
  refine call_p (iexprOk_ok e (by omega)) Tryz.call11 rfl rfl rfl (by first | rfl | (simp -implicitDefEqProofs (disch := omega) only [go_sem] <;> rfl)) ?_
  simp -implicitDefEqProofs (disch := omega) only [go_sem, vis_ok]
  refine hQ1 _ _ (S_ ?_);clear hQ1 Q1
  refine c_ (fun hc0 => ?_) fun hc0 => ?_
  ·
    refine g_ [2] ?_
    refine e_ Tryz.results12 ?_
    first
    | exact True.intro
    | rw [manyX]
      revert hc0
      cases e.ok <;> simp
  refine n_ ?_
  refine wpM_regionK [2] rfl fun Q1 hQ1 => ?_
  simp -implicitDefEqProofs (disch := omega) only [go_sem, wsE_len]
  refine call_p (wordsOf_ok e (by omega) (by rw [vis_ok]; simpa using hc0)) Tryz.call32 rfl rfl rfl (by first | rfl | (simp -implicitDefEqProofs (disch := omega) only [go_sem] <;> rfl)) ?_
  simp -implicitDefEqProofs (disch := omega) only [go_sem, wsE_len]
  refine hQ1 _ _ (S_ ?_);clear hQ1 Q1
  refine e_ Tryz.results12 ?_
  first
  | exact True.intro
  | rw [manyX]
    revert hc0
    cases e.ok <;> simp
end Go.Proofs.YtmicbfojofcigaaGreat
namespace Go.Proofs.YtmicbfojofcigaaGreat
open Go Sg
set_option maxRecDepth 100000
set_option linter.unusedSimpArgs false
set_option linter.unusedVariables false
set_option linter.unusedSectionVars false
set_option maxHeartbeats 4000000
variable [Tab]
def oneL (e : Ex) : List Sm := [.mk 1 ⟨3, 0⟩ e [] []]
theorem oneL_ok (e : Ex) : okS (oneL e) = e.ok := by
  have h1 : (Sm.mk 1 ⟨3, 0⟩ e [] []).plain = true := set_plain (by decide)
  have f0 : formS 3 ([] : List Sm) = true := rfl
  have f1 : formS 4 (oneL e) = e.ok := by
    rw [oneL, formS, List.all_cons]
    simp only [Sm.mk_e, Sm.mk_th, Sm.mk_el, h1, f0, List.all_nil, Bool.true_and, Bool.and_true]
  have m1 : manyS 4 (oneL e) ≤ 16 := by
    simp [oneL, manyS, Sm.mk_th, Sm.mk_el]
  rw [okS, f1, decide_eq_true m1, Bool.true_and]
theorem oneL_sz (e : Ex) : Sm.szL (oneL e) = 1 + e.sz := by
  simp only [oneL, Sm.szL, Sm.sz]; omega
theorem smc_oneL (e : Ex) : smc (oneL e) = [.int .i64 1, .int .i64 3, .int .i64 0, .int .i64 e.kind, .int .i64 e.n, .int .i64 e.a.kind, .int .i64 e.a.at', .rows 27 (Ex.csL e.kids), .rows 45 [], .rows 45 []] := by
  simp only [smc, oneL, Sm.csL, Sm.cs_eq, List.flatten_cons, List.flatten_nil, List.append_nil]
  simp [Sm.kind, Sm.to', Sm.e, Sm.th, Sm.el, Sm.csL]
theorem codeOf_no' {l : List Sm} (h : okS l = false) : codeOf l = [] := by rw [codeOf, h]; rfl
theorem codeOf_one {e : Ex} (h : e.ok = true) : (codeOf (oneL e)).length = e.sz + 1 := by
  have h2 : okS (oneL e) = true := by rw [oneL_ok]; exact h
  have h3 : codeOf (oneL e) = Sm.cdL (oneL e) 0 := by rw [codeOf, if_pos h2]
  rw [h3]
  simp only [oneL, Sm.cdL, List.length_append, List.length_nil]
  rw [Sm.cd_eq, if_pos (by simp [Sm.mk_kind]), List.length_append]
  simp only [Sm.mk_e, Ex.cd_len, List.length_cons, List.length_nil]
theorem dp_form (d : Nat) : ∀ e : Ex, formD d e = true → e.dp ≤ d := by
  induction d with
  | zero => intro e h; cases h
  | succ d ih =>
    intro e h
    have hk := form_len h
    have hi := (form_inv h).2.2
    rw [Ex.dp_eq]
    rcases hk with ⟨h0, _⟩ | ⟨h0, _⟩ | ⟨h0, _⟩
    · rw [List.eq_nil_of_length_eq_zero h0]; simp only [Ex.dpL]; omega
    · match hx : e.kids, h0 with
      | [a], _ =>
        have h1 := ih a (by have := hi 0 (by rw [hx]; simp); rw [hx] at this; exact this)
        simp only [Ex.dpL]; omega
    · match hx : e.kids, h0 with
      | [a, b], _ =>
        have h1 := ih a (by have := hi 0 (by rw [hx]; simp); rw [hx] at this; exact this)
        have h2 := ih b (by have := hi 1 (by rw [hx]; simp); rw [hx] at this; exact this)
        have := b.dp_pos
        simp only [Ex.dpL]; omega
theorem dp_two {e : Ex} (h : 2 ≤ e.kids.length) : 2 ≤ e.dp := by
  rw [Ex.dp_eq]
  match hx : e.kids, h with
  | a :: b :: l, _ =>
    have := b.dp_pos
    simp only [Ex.dpL]; omega
theorem one_dep {e : Ex} (h : e.ok = true) : depC (codeOf (oneL e)) = e.dp ∧ 1 ≤ e.dp ∧ e.dp ≤ 6 ∧ manyX e = (e.sz : Int) ∧ e.sz ≤ 14 := by
  have h2 : okS (oneL e) = true := by rw [oneL_ok]; exact h
  have hf := ok_form h
  have hz : e.sz ≤ 14 := by
    have := many_sz 6 e hf
    simp only [Ex.ok, Bool.and_eq_true, decide_eq_true_eq] at h
    omega
  have hp := e.dp_pos
  have hd := dp_form 6 e hf
  refine ⟨?_, hp, hd, by rw [manyX, if_pos h], hz⟩
  rw [depC_codeOf h2 (by rw [codeOf_one h]; omega)]
  simp only [oneL, Sm.dpL]
  rw [Sm.dp_eq, if_pos (by simp [Sm.mk_kind]), Sm.mk_e]
  omega
theorem lawDepth_ok (code : List Nat) (hcode : ∀ x ∈ code, x < 256) : PureF Tryz.prog 4 [.rows 5 (u8s code)] [.bool true] := by
  refine pureF_of Tryz.func4 rfl Tryz.ntmps4 (by simp) T_ ?_
  intro f0 B Q hQ
  refine g_ [0] ?_
  refine g_ [0,11] ?_
  refine c_ (fun hc0 => ?_) fun hc0 => ?_
  ·
    refine g_ [2] ?_
    refine e_ Tryz.results4 ?_
    first
    | exact True.intro
    | trivial
  have hl2 : code.length ≤ 1099511627776 := by
    have : ¬ ((code.length : Int) > 1048576) := by simpa using hc0
    omega
  refine n_ ?_
  refine wpM_regionK [0,3] rfl fun Q1 hQ1 => ?_
  refine S_ ?_
  refine call_fn (l := []) (first := []) (cap := []) (ps := [.rows 5 (u8s code)]) (drawDepth_ok code hcode hl2) Tryz.call14 rfl rfl rfl G_ T_ ?_
  rintro out ⟨p, hp, rfl⟩
  refine S_ ?_
  refine hQ1 _ _ (S_ ?_);clear hQ1 Q1
  refine n_ ?_
  refine wpM_regionK [0,3,4] rfl fun Q1 hQ1 => ?_
  refine S_ ?_
  refine cp_ (icodeDepth_ok p (by omega)) Tryz.call15 ?_
  refine hQ1 _ _ (S_ ?_);clear hQ1 Q1
  refine n_ ?_
  refine wpM_regionK [0,19] rfl fun Q1 hQ1 => ?_
  refine S_ ?_
  refine cp_ (scodeDepth_ok p (by omega)) Tryz.call16 ?_
  refine hQ1 _ _ (S_ ?_);clear hQ1 Q1
  refine c_ (fun hc1 => ?_) fun hc1 => ?_
  · exfalso; simp at hc1
  refine n_ ?_
  refine wpM_regionK [5] rfl fun Q1 hQ1 => ?_
  refine S_ ?_
  refine call_fn (l := []) (first := []) (cap := []) (ps := [.rows 5 (u8s code)]) (drawMany_ok code hcode hl2) Tryz.call17 rfl rfl rfl G_ T_ ?_
  rintro out ⟨e, hes, rfl⟩
  refine S_ ?_
  refine hQ1 _ _ (S_ ?_);clear hQ1 Q1
  refine g_ [5,6] ?_
  have hzz := oneL_sz e
  refine wpM_le [(5, .ptr B 0), (6, .sl 45 (B + 1) 0 1)] [(B + 1, .cells 45 (smc (oneL e))), (B, .cells 27 e.cs)] T_ (by simp -implicitDefEqProofs (disch := omega) only [go_sem, smc_oneL]) T_ ?_
  refine wpM_frz [B + 1] [(45, B + 1, 0, 1, Sm.csL (oneL e))] (by intro q hq; simp at hq; subst hq; simp -implicitDefEqProofs (disch := omega) only [go_sem]) (by intro q hq; simp only [List.mem_cons, List.not_mem_nil, or_false] at hq; subst hq; exact ⟨by simp, rowsOf_smc (T := 45) (l := oneL e) T_ rfl⟩) ?_
  refine S_ ?_
  refine n_ ?_
  refine wpM_regionK [5,6,28] rfl fun Q1 hQ1 => ?_
  refine S_ ?_
  refine cp_ (exprOk_ok e (by omega)) Tryz.call9 ?_
  refine hQ1 _ _ (S_ ?_);clear hQ1 Q1
  refine c_ (fun hc2 => ?_) fun hc2 => ?_
  ·
    refine n_ ?_
    refine wpM_regionK [2] rfl fun Q1 hQ1 => ?_
    refine S_ ?_
    refine cp_ (icodeOf_ok (oneL e) (by omega)) Tryz.call18 ?_
    refine hQ1 _ _ (S_ ?_);clear hQ1 Q1
    refine e_ Tryz.results4 ?_
    first
    | exact True.intro
    | rw [codeOf_no' (by rw [oneL_ok]; simpa using hc2)]; rfl
  have hok : e.ok = true := by simpa using hc2
  obtain ⟨d1, d2, d3, d4, d5⟩ := one_dep hok
  have hcl := codeOf_one hok
  refine n_ ?_
  refine wpM_regionK [5,7] rfl fun Q1 hQ1 => ?_
  refine S_ ?_
  refine cp_ (icodeOf_ok (oneL e) (by omega)) Tryz.call18 ?_
  refine hQ1 _ _ (S_ ?_);clear hQ1 Q1
  refine n_ ?_
  refine wpM_regionK [5,7,8] rfl fun Q1 hQ1 => ?_
  refine S_ ?_
  refine cp_ (icodeDepth_ok (codeOf (oneL e)) (by omega)) Tryz.call15 ?_
  refine hQ1 _ _ (S_ ?_);clear hQ1 Q1
  refine n_ ?_
  refine wpM_regionK [2] rfl fun Q1 hQ1 => ?_
  refine SD_ ?_
  first | refine cg_ (fun hb => imanyX_ok e (by omega)) Tryz.call12 ?_ | refine cpD_ (imanyX_ok e (by omega)) Tryz.call12 ?_
  refine hQ1 _ _ (S_ ?_);clear hQ1 Q1
  refine e_ Tryz.results4 ?_
  first
  | exact True.intro
  | have h2 : decide ((e.kids.length : Int) < 2) = true ∨ decide (e.dp ≥ 2) = true := by
      by_cases h : e.kids.length < 2
      · exact .inl (by simpa using (by omega : (e.kids.length : Int) < 2))
      · exact .inr (by simpa using dp_two (by omega))
    have h3 : ((codeOf (oneL e)).length : Int) = manyX e + 1 := by rw [hcl, d4]; omega
    rw [d1, h3]
    simp only [decide_eq_true d2, decide_eq_true d3, ge_iff_le, beq_self_eq_true, Bool.and_self, Bool.true_and]
    rcases h2 with h | h
    · rw [h]; simp
    · simp only [ge_iff_le] at h; rw [h]; simp
end Go.Proofs.YtmicbfojofcigaaGreat
