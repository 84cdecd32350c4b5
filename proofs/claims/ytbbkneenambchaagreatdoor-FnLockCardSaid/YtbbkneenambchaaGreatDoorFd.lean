/- The evaluator's trees. What an operation does to what is owned, with names that are free. Frames whose names are counted: what operations, calls and code give, with the names that they use. A region that draws its order, over named entries; regions and code. Operations that make entries, the name given. append, the name given. Where elements come from; slices of slices; nil. Conditions: none. -/
import Derived.Test.YtbbkneenambchaaGreatDoorFc

namespace Go.Fs
open Go

theorem acc_succ (α : Type) (n i : Nat) : acc α (n + 1) i = bif Nat.beq (i % 2) 1 then accR (acc α n (i / 2)) else accL (acc α n (i / 2)) := by
  show @Bool.rec (fun _ => Acc α (n + 1)) _ _ (Nat.beq (i % 2) 1) = _
  cases Nat.beq (i % 2) 1 <;> rfl

theorem beq_one (i : Nat) : Nat.beq (i % 2) 1 = true ∨ Nat.beq (i % 2) 1 = false := by
  cases Nat.beq (i % 2) 1 <;> simp

theorem beq_spec (a b : Nat) : (Nat.beq a b = true ↔ a = b) := ⟨Nat.eq_of_beq_eq_true, fun h => by subst h; exact Nat.beq_refl a⟩

/-- What is read after a place was written. -/
theorem acc_get_put {α : Type} : ∀ (n i d : Nat), i < 2 ^ n → d < 2 ^ n → ∀ (x : α) (T : TT α n), (acc α n i).g ((acc α n d).u x T) = if i = d then x else (acc α n i).g T
  | 0, i, d, hi, hd, x, T => by
    have h1 : i = 0 := by simpa using hi
    have h2 : d = 0 := by simpa using hd
    subst h1; subst h2
    rfl
  | n + 1, i, d, hi, hd, x, T => by
    have hp : 2 ^ (n + 1) = 2 * 2 ^ n := by rw [Nat.pow_succ, Nat.mul_comm]
    have ih := acc_get_put (α := α) n (i / 2) (d / 2) (by omega) (by omega)
    rw [acc_succ α n i, acc_succ α n d]
    have e1 : Nat.beq (i % 2) 1 = decide (i % 2 = 1) := by
      cases h : Nat.beq (i % 2) 1
      · symm
        rw [decide_eq_false_iff_not]
        intro h'; rw [(beq_spec _ _).2 h'] at h; cases h
      · symm
        rw [decide_eq_true_iff]
        exact (beq_spec _ _).1 h
    have e2 : Nat.beq (d % 2) 1 = decide (d % 2 = 1) := by
      cases h : Nat.beq (d % 2) 1
      · symm
        rw [decide_eq_false_iff_not]
        intro h'; rw [(beq_spec _ _).2 h'] at h; cases h
      · symm
        rw [decide_eq_true_iff]
        exact (beq_spec _ _).1 h
    rw [e1, e2]
    by_cases h1 : i % 2 = 1
    · by_cases h2 : d % 2 = 1
      · simp only [h1, h2, decide_true, cond_true]
        show (acc α n (i / 2)).g ((acc α n (d / 2)).u x (Pr.r T)) = _
        rw [ih]
        by_cases h : i = d
        · subst h; simp
        · rw [if_neg h, if_neg (by omega)]; rfl
      · simp only [h1, h2, decide_true, decide_false, cond_true, cond_false]
        have : i ≠ d := fun e => by subst e; exact h2 h1
        rw [if_neg this]
        rfl
    · by_cases h2 : d % 2 = 1
      · simp only [h1, h2, decide_true, decide_false, cond_true, cond_false]
        have : i ≠ d := fun e => by subst e; exact h1 h2
        rw [if_neg this]
        rfl
      · simp only [h1, h2, decide_false, cond_false]
        show (acc α n (i / 2)).g ((acc α n (d / 2)).u x (Pr.l T)) = _
        rw [ih]
        by_cases h : i = d
        · subst h; simp
        · rw [if_neg h, if_neg (by omega)]; rfl

theorem acc_full {α : Type} (x : α) : ∀ (n i : Nat), (acc α n i).g (full α x n) = x
  | 0, _ => rfl
  | n + 1, i => by
    rw [acc_succ]
    cases Nat.beq (i % 2) 1
    · show (acc α n (i / 2)).g (full α x n) = x
      exact acc_full x n _
    · show (acc α n (i / 2)).g (full α x n) = x
      exact acc_full x n _

theorem lkS_put {i d : Nat} (hi : i < 256) (hd : d < 256) (x : FV) (E : ET) : lkS (putS d x E) i = if i = d then x else lkS E i := acc_get_put 8 i d hi hd x E

/-- The entries of a tree. -/
def toLn : (n : Nat) → TT HE n → Heap
  | 0, (e : Option (Nat × FObj)) => e.toList
  | n + 1, (t : Pr (TT HE n)) => toLn n t.l ++ toLn n t.r
def toL (H : HT) : Heap := toLn 16 H

theorem toLn_full : ∀ n, toLn n (full HE none n) = []
  | 0 => rfl
  | n + 1 => by
    show toLn n (full HE none n) ++ toLn n (full HE none n) = []
    rw [toLn_full n]; rfl
theorem toL_H0 : toL H0T = [] := toLn_full 16

/-- A place of the tree and all others. -/
theorem toLn_put : ∀ (n i : Nat) (T : TT HE n), ∃ R, (toLn n T).Perm (((acc HE n i).g T).toList ++ R) ∧ ∀ e : HE, (toLn n ((acc HE n i).u e T)).Perm (e.toList ++ R)
  | 0, i, T => ⟨[], by rw [List.append_nil]; exact List.Perm.refl _, fun e => by rw [List.append_nil]; exact List.Perm.refl _⟩
  | n + 1, i, T => by
    rw [acc_succ]
    cases Nat.beq (i % 2) 1
    · obtain ⟨R, h1, h2⟩ := toLn_put n (i / 2) (Pr.l T)
      refine ⟨R ++ toLn n (Pr.r T), ?_, fun e => ?_⟩
      · show (toLn n (Pr.l T) ++ toLn n (Pr.r T)).Perm _
        refine (h1.append_right _).trans ?_
        rw [List.append_assoc]; exact List.Perm.refl _
      · show (toLn n ((acc HE n (i / 2)).u e (Pr.l T)) ++ toLn n (Pr.r T)).Perm _
        refine ((h2 e).append_right _).trans ?_
        rw [List.append_assoc]
    · obtain ⟨R, h1, h2⟩ := toLn_put n (i / 2) (Pr.r T)
      refine ⟨toLn n (Pr.l T) ++ R, ?_, fun e => ?_⟩
      · show (toLn n (Pr.l T) ++ toLn n (Pr.r T)).Perm _
        refine (h1.append_left _).trans ?_
        rw [← List.append_assoc, ← List.append_assoc]
        exact (List.perm_append_comm).append_right R
      · show (toLn n (Pr.l T) ++ toLn n ((acc HE n (i / 2)).u e (Pr.r T))).Perm _
        refine ((h2 e).append_left _).trans ?_
        rw [← List.append_assoc, ← List.append_assoc]
        exact (List.perm_append_comm).append_right R

/-- An entry of the tree, and what remains; and the tree where it is replaced. -/
theorem lkH_split {τ : Nat} {H : HT} {o : FObj} (h : lkH τ H = some o) : ∃ R, (toL H).Perm ((τ, o) :: R) ∧ (∀ x, (toL (putH τ x H)).Perm ((τ, x) :: R)) ∧ (toL (delH τ H)).Perm R := by
  obtain ⟨R, h1, h2⟩ := toLn_put 16 τ H
  have h' : (acc HE 16 τ).g H = some (τ, o) := by
    unfold lkH at h
    show (aH τ).g H = _
    generalize (aH τ).g H = e at h
    cases e with
    | none => cases h
    | some p =>
      obtain ⟨k, x⟩ := p
      have h : @Bool.rec (fun _ => Option FObj) none (some x) (Nat.beq k τ) = some o := h
      cases hb : Nat.beq k τ with
      | false => rw [hb] at h; cases h
      | true =>
        rw [hb] at h
        have h : some x = some o := h
        cases h
        rw [(beq_spec _ _).1 hb]
  rw [h'] at h1
  refine ⟨R, h1, fun x => h2 (some (τ, x)), h2 none⟩

theorem freeH_put {τ : Nat} {H : HT} (h : freeH τ H = true) (x : FObj) : (toL (putH τ x H)).Perm ((τ, x) :: toL H) := by
  obtain ⟨R, h1, h2⟩ := toLn_put 16 τ H
  have h' : (acc HE 16 τ).g H = none := by
    unfold freeH at h
    show (aH τ).g H = none
    generalize (aH τ).g H = e at h
    cases e with
    | none => rfl
    | some p => cases h
  rw [h'] at h1
  exact (h2 (some (τ, x))).trans (List.Perm.cons _ h1.symm)

end Go.Fs
namespace Go.Fs
open Go
theorem acc_none : ∀ (n i d : Nat) (T : TT HE n), (acc HE n i).g T = none → (acc HE n i).g ((acc HE n d).u none T) = none
  | 0, i, d, T, h => rfl
  | n + 1, i, d, T, h => by
    rw [acc_succ HE n i] at h ⊢
    rw [acc_succ HE n d]
    cases h1 : Nat.beq (i % 2) 1 <;> cases h2 : Nat.beq (d % 2) 1 <;> rw [h1] at h
    · exact acc_none n (i / 2) (d / 2) (Pr.l T) h
    · exact h
    · exact h
    · exact acc_none n (i / 2) (d / 2) (Pr.r T) h
end Go.Fs

namespace Go.Fs
open Go

/-- The operation, or the call that it makes, ends so. -/
def Does (P : Program) (post : Value → World → Prop) : Result Next → Prop
  | .ok (.value v) w' => post v w'
  | .ok .skip w' => post undef w'
  | .ok (.enter f vs) w' => Calls P f vs w' fun e w'' => ∃ v, e = .returned v ∧ post v w''
  | _ => False

theorem Does.mono {P : Program} {p q : Value → World → Prop} (h : ∀ v w, p v w → q v w) {r : Result Next} : Does P p r → Does P q r := by
  intro hr
  unfold Does at hr ⊢
  split at hr
  · exact h _ _ hr
  · exact h _ _ hr
  · exact Calls.mono hr fun e w' ⟨v, he, hp⟩ => ⟨v, he, h _ _ hp⟩
  · exact hr.elim

theorem Does.upon {P : Program} {o : Oper} {a : Act} {n : Act → World → Prop} {Q : Exit → Act → World → Prop} {r : Result Next} (h : Does P (fun v w => n (a.put o.dst v) w) r) : o.upon P a n Q r := by
  unfold Does at h
  unfold Oper.upon
  split at h
  · exact h
  · exact h
  · refine Calls.mono h fun e w' ⟨v, he, hp⟩ => ?_
    subst he; exact hp
  · exact h.elim

/-- The globals that are known. -/
def GOK (K : Cfg) (Z : Ctx) : Prop := ∀ g cs, K.G g = some cs → VR Z (.pp cs) (.pointer (some ⟨g, 0, none⟩))
theorem GOK.mono {K : Cfg} {Z Z' : Ctx} (h : Ctx.le Z Z') (g : GOK K Z) : GOK K Z' := fun i cs hi => (g i cs hi).mono h

/-- From owned entries L, the names of N free: the operation gives x, owned is L', the names of N' are free. -/
def OpH (K : Cfg) (o : Oper) (ρ : Operand → FV) (L : Heap) (N : Nat → Prop) (x : FV) (L' : Heap) (N' : Nat → Prop) : Prop :=
  ∀ (Z : Ctx) (w : World) (F : Heap) (ρ' : Operand → Value), HeapOK Z w (L ++ F) → (∀ t, N t → Z.nm t = none) → GOK K Z → (∀ y, y ∈ o.op.operands → VR Z (ρ y) (ρ' y)) →
    Does K.P (fun v w' => ∃ Z', Ctx.le Z Z' ∧ HeapOK Z' w' (L' ++ F) ∧ (∀ t, N' t → Z'.nm t = none) ∧ VR Z' x v) ((execOp ρ' o).run K.P w)

section
variable {K : Cfg} {o : Oper} {ρ : Operand → FV} {L L' : Heap} {N N' : Nat → Prop} {x : FV}

theorem OpH.of_PR (h : PR K.P o (fun y => .v (ρ y)) (.v x)) : OpH K o ρ [] N x [] N := fun Z w F ρ' hh hn _ hr => by
  obtain ⟨v, w', Z', h1, h2, h3, h4, h5⟩ := h Z w F (fun i => i) ρ' hh hr
  rw [h1]
  exact ⟨Z', h2, h3, fun t ht => by rw [h5]; exact hn t ht, h4⟩

theorem OpH.frame (R : Heap) (h : OpH K o ρ L N x L' N') : OpH K o ρ (L ++ R) N x (L' ++ R) N' := fun Z w F ρ' hh hn hg hr => by
  refine (h Z w (R ++ F) ρ' (by simpa using hh) hn hg hr).mono fun v w' ⟨Z', h1, h2, h3, h4⟩ => ⟨Z', h1, by simpa using h2, h3, h4⟩

theorem OpH.perm {L1 L1' : Heap} (p : L1.Perm L) (p' : L'.Perm L1') (h : OpH K o ρ L N x L' N') : OpH K o ρ L1 N x L1' N' := fun Z w F ρ' hh hn hg hr =>
  (h Z w F ρ' (hh.perm (p.append_right F)) hn hg hr).mono fun _ _ ⟨Z', h1, h2, h3, h4⟩ => ⟨Z', h1, h2.perm (p'.append_right F), h3, h4⟩

/-- Pure, over whatever is owned. -/
theorem OpH.pure (h : PR K.P o (fun y => .v (ρ y)) (.v x)) : OpH K o ρ L N x L N := (OpH.of_PR h).frame L
end

end Go.Fs

namespace Go.Fs
open Go

/-- Slots, a slot written. -/
def updF (E : Nat → FV) (d : Nat) (x : FV) : Nat → FV := fun i => if i = d then x else E i
def updO (E : Nat → FV) : Option Nat → FV → Nat → FV
  | none, _ => E
  | some d, x => updF E d x

noncomputable def evN (K : Cfg) (E : Nat → FV) : Operand → FV
  | .tmp t => E t
  | .const c => ofC c
  | .global g => evG g K
  | .func f => .fn f []

structure RN (n : Nat) (Z : Ctx) (w : World) (F : Heap) (E : Nat → FV) (L : Heap) (a : Act) : Prop where
  defers : a.defers = []
  size : a.tmps.size = n
  heap : HeapOK Z w (L ++ F)
  env : ∀ i, VR Z (E i) (a.tmps.getD i undef)

theorem evG_ok {K : Cfg} {Z : Ctx} (hg : GOK K Z) (g : Nat) : VR Z (evG g K) (.pointer (some ⟨g, 0, none⟩)) := by
  unfold evG
  cases h : K.G g with
  | none => exact .ptr g 0
  | some cs => exact hg g cs h

theorem RN.ev {n : Nat} {Z : Ctx} {w : World} {F : Heap} {E : Nat → FV} {L : Heap} {a : Act} (r : RN n Z w F E L a) {K : Cfg} (hg : GOK K Z) (y : Operand) : VR Z (evN K E y) (a.eval y) := by
  cases y with
  | tmp t => exact r.env t
  | const c => exact VR.ofC Z c
  | global g => exact evG_ok hg g
  | func f => exact VR.fn f [] #[] rfl (fun i hi => by simp at hi)

theorem RN.put {n : Nat} {Z : Ctx} {w : World} {F : Heap} {E : Nat → FV} {L : Heap} {a : Act} (r : RN n Z w F E L a) {d : Option Nat} {x : FV} {u : Value} (hd : dstOK n d = true) (h : VR Z x u) : RN n Z w F (updO E d x) L (a.put d u) := by
  cases d with
  | none => exact r
  | some d =>
    have hd' : d < a.tmps.size := by rw [r.size]; simpa [dstOK, Nat.blt_eq] using hd
    refine ⟨r.defers, ?_, r.heap, fun i => ?_⟩
    · show (a.tmps.setIfInBounds d u).size = n
      simp [r.size]
    · show VR Z (updF E d x i) ((a.tmps.setIfInBounds d u).getD i undef)
      unfold updF
      by_cases hi : i = d
      · subst hi
        rw [if_pos rfl]
        simpa [Array.getD, hd'] using h
      · rw [if_neg hi]
        have e := r.env i
        have : (a.tmps.setIfInBounds d u).getD i undef = a.tmps.getD i undef := by
          simp only [Array.getD_eq_getD_getElem?]
          rw [Array.getElem?_setIfInBounds_ne (by omega)]
        rw [this]
        exact e

theorem RN.to {n : Nat} {Z Z' : Ctx} {w w' : World} {F : Heap} {E : Nat → FV} {L L' : Heap} {a : Act} (r : RN n Z w F E L a) (hz : Ctx.le Z Z') (hh : HeapOK Z' w' (L' ++ F)) : RN n Z' w' F E L' a :=
  ⟨r.defers, r.size, hh, fun i => (r.env i).mono hz⟩

/-- Outside of I the names are as they were. -/
def Same (I : Nat → Prop) (Z Z' : Ctx) : Prop := ∀ t, ¬ I t → Z'.nm t = Z.nm t
theorem Same.refl (I : Nat → Prop) (Z : Ctx) : Same I Z Z := fun _ _ => rfl
theorem Same.mono {I J : Nat → Prop} {Z Z' : Ctx} (h : ∀ t, I t → J t) (s : Same I Z Z') : Same J Z Z' := fun t ht => s t fun hi => ht (h t hi)
theorem Same.trans {I : Nat → Prop} {A B C : Ctx} (s : Same I A B) (t : Same I B C) : Same I A C := fun u hu => (t u hu).trans (s u hu)

def Free (I : Nat → Prop) (Z : Ctx) : Prop := ∀ t, I t → Z.nm t = none

/-- From owned entries L, the names of I free: the operation gives x, owned is L', and no other name is given. -/
def OpN (K : Cfg) (o : Oper) (ρ : Operand → FV) (L : Heap) (I : Nat → Prop) (x : FV) (L' : Heap) : Prop :=
  ∀ (Z : Ctx) (w : World) (F : Heap) (ρ' : Operand → Value), HeapOK Z w (L ++ F) → Free I Z → GOK K Z → (∀ y, y ∈ o.op.operands → VR Z (ρ y) (ρ' y)) →
    Does K.P (fun v w' => ∃ Z', Ctx.le Z Z' ∧ HeapOK Z' w' (L' ++ F) ∧ Same I Z Z' ∧ VR Z' x v) ((execOp ρ' o).run K.P w)

section
variable {K : Cfg} {o : Oper} {ρ : Operand → FV} {L L' : Heap} {I : Nat → Prop} {x : FV}

theorem OpN.of_PR (h : PR K.P o (fun y => .v (ρ y)) (.v x)) : OpN K o ρ [] I x [] := fun Z w F ρ' hh _ _ hr => by
  obtain ⟨v, w', Z', h1, h2, h3, h4, h5⟩ := h Z w F (fun i => i) ρ' hh hr
  rw [h1]
  exact ⟨Z', h2, h3, fun t _ => by rw [h5], h4⟩

theorem OpN.of_HS {Post : FV → Heap → Prop} (h : HS K.P o (fun y => .v (ρ y)) L Post) (hp : ∀ y H', Post y H' → y = x ∧ H' = L') : OpN K o ρ L I x L' := fun Z w F ρ' hh _ _ hr => by
  obtain ⟨y, H', v, w', Z', h1, h2, h3, h4, h5, h6⟩ := h Z w F (fun i => i) ρ' hh hr
  obtain ⟨rfl, rfl⟩ := hp _ _ h5
  rcases h1 with h1 | ⟨h1, rfl⟩
  · rw [h1]; exact ⟨Z', h2, h3, fun t _ => by rw [h6], h4⟩
  · rw [h1]; exact ⟨Z', h2, h3, fun t _ => by rw [h6], h4⟩

theorem OpN.frame (R : Heap) (h : OpN K o ρ L I x L') : OpN K o ρ (L ++ R) I x (L' ++ R) := fun Z w F ρ' hh hn hg hr => by
  refine (h Z w (R ++ F) ρ' (by simpa using hh) hn hg hr).mono fun v w' ⟨Z', h1, h2, h3, h4⟩ => ⟨Z', h1, by simpa using h2, h3, h4⟩

theorem OpN.perm {L1 L1' : Heap} (p : L1.Perm L) (p' : L'.Perm L1') (h : OpN K o ρ L I x L') : OpN K o ρ L1 I x L1' := fun Z w F ρ' hh hn hg hr =>
  (h Z w F ρ' (hh.perm (p.append_right F)) hn hg hr).mono fun _ _ ⟨Z', h1, h2, h3, h4⟩ => ⟨Z', h1, h2.perm (p'.append_right F), h3, h4⟩

theorem OpN.names {J : Nat → Prop} (hj : ∀ t, I t → J t) (h : OpN K o ρ L I x L') : OpN K o ρ L J x L' := fun Z w F ρ' hh hn hg hr =>
  (h Z w F ρ' hh (fun t ht => hn t (hj t ht)) hg hr).mono fun _ _ ⟨Z', h1, h2, h3, h4⟩ => ⟨Z', h1, h2, h3.mono hj, h4⟩

theorem OpN.congr {ρ2 : Operand → FV} (he : ∀ y, y ∈ o.op.operands → ρ2 y = ρ y) (h : OpN K o ρ L I x L') : OpN K o ρ2 L I x L' := fun Z w F ρ' hh hn hg hr =>
  h Z w F ρ' hh hn hg fun y hy => by rw [← he y hy]; exact hr y hy
end

/-- Is the operation carried out? none: not known. -/
def gdN (ops : Array Oper) (o : Oper) (E : Nat → FV) : Option Bool :=
  match o.guard with
  | none => some true
  | some (j, want) => match (ops[j]?).bind (·.dst) with
    | some d => match E d with
      | .bool b => some (b == want)
      | .val (.bool _) => none
      | .val _ => some false
      | _ => none
    | none => none

theorem gdN_ok {ops : Array Oper} {o : Oper} {n : Nat} {E : Nat → FV} {b : Bool} (h : gdN ops o E = some b) {Z : Ctx} {w : World} {F L : Heap} {a : Act} (r : RN n Z w F E L a) : Region.wanted o (yielded ops a.tmps) = b := by
  unfold gdN at h
  unfold Region.wanted
  cases hg : o.guard with
  | none =>
    simp only [hg, Option.some.injEq] at h
    exact h
  | some g =>
    obtain ⟨j, want⟩ := g
    simp only [hg] at h ⊢
    cases hd : (ops[j]?).bind (·.dst) with
    | none => simp [hd] at h
    | some d =>
      simp only [hd] at h
      have h0 := r.env d
      cases hE : E d <;> simp only [hE] at h <;> first | (cases h; done) | skip
      · rename_i c
        rw [hE] at h0
        have h1 := VR.bool_inv h0
        have hlt : d < a.tmps.size := by
          rcases Nat.lt_or_ge d a.tmps.size with h' | h'
          · exact h'
          · have e : a.tmps.getD d undef = undef := by simp [Array.getD, Nat.not_lt.2 h']
            rw [e] at h1
            cases h1
        have h2 : a.tmps[d]? = some (.bool c) := by
          simp [Array.getD, hlt] at h1
          simp [hlt, h1]
        simp only [yielded, hd, Option.bind_some, h2]
        cases h
        cases c <;> cases want <;> rfl
      · rename_i v
        rw [hE] at h0
        generalize hu : a.tmps.getD d undef = u at h0
        cases h0
        have hb : b = false := by
          cases v <;> simp at h <;> exact h
        subst hb
        have hne : ∀ c, v ≠ .bool c := fun c e => by subst e; simp at h
        have hy : yielded ops a.tmps j = none := by
          simp only [yielded, hd, Option.bind_some]
          cases hv : a.tmps[d]? with
          | none => rfl
          | some u =>
            have : a.tmps.getD d undef = u := by simp [Array.getD_eq_getD_getElem?, hv]
            rw [this] at hu; subst hu
            cases u <;> first | rfl | (rename_i c; exact absurd rfl (hne c))
        rw [hy]; rfl

theorem perm_apart {α : Type} : ∀ {C : List α} {A B D : List α}, (A ++ B).Perm (C ++ D) → (∀ c, c ∈ C → c ∉ A) → ∃ S, B.Perm (C ++ S) ∧ D.Perm (A ++ S)
  | [], A, B, D, h, _ => ⟨B, List.Perm.refl _, h.symm⟩
  | c :: C, A, B, D, h, hd => by
    have hm : c ∈ A ++ B := h.mem_iff.2 (by simp)
    have hB : c ∈ B := by
      rcases List.mem_append.1 hm with h' | h'
      · exact absurd h' (hd c (by simp))
      · exact h'
    obtain ⟨B1, B2, rfl⟩ := List.append_of_mem hB
    have h2 : (A ++ (B1 ++ B2)).Perm (C ++ D) := by
      have h3 : (c :: (A ++ (B1 ++ B2))).Perm (c :: (C ++ D)) := by
        refine List.Perm.trans ?_ h
        rw [← List.append_assoc, ← List.append_assoc]
        exact List.perm_middle.symm
      exact h3.cons_inv
    obtain ⟨S, h4, h5⟩ := perm_apart h2 (fun d hd' => hd d (by simp [hd']))
    exact ⟨S, List.perm_middle.trans (h4.cons c), h5⟩

/-- Kinds of operations: 0 neither reads nor makes entries, 1 reads, 2 adds entries, 3 any, 4 adds entries and reads none, 5 any, but only of entries whose names are in W. -/
inductive OpC (K : Cfg) (o : Oper) (ρ : Operand → FV) (I W : Nat → Prop) (x : FV) : Nat → Heap → Heap → Prop
  | pure (L : Heap) (h : OpN K o ρ [] I x []) : OpC K o ρ I W x 0 L L
  | read (L : Heap) (h : OpN K o ρ L I x L) : OpC K o ρ I W x 1 L L
  | keep (L new : Heap) (h : OpN K o ρ L I x (new ++ L)) : OpC K o ρ I W x 2 L (new ++ L)
  | any (L L' : Heap) (h : OpN K o ρ L I x L') : OpC K o ρ I W x 3 L L'
  | fresh (L new : Heap) (h : OpN K o ρ [] I x new) : OpC K o ρ I W x 4 L (new ++ L)
  | local_ (L M M' R : Heap) (p : L.Perm (M ++ R)) (h : OpN K o ρ M I x M') (hM : ∀ q, q ∈ M → W q.1) (hM' : ∀ q, q ∈ M' → W q.1 ∨ I q.1) : OpC K o ρ I W x 5 L (M' ++ R)

theorem OpC.opN {K : Cfg} {o : Oper} {ρ : Operand → FV} {I W : Nat → Prop} {x : FV} {k : Nat} {L L' : Heap} (h : OpC K o ρ I W x k L L') : OpN K o ρ L I x L' := by
  cases h with
  | pure _ h => have := h.frame L; simpa using this
  | read _ h => exact h
  | keep _ new h => exact h
  | any _ _ h => exact h
  | fresh _ new h => have := h.frame L; simpa using this
  | local_ _ M M' R p h => exact (h.frame R).perm p (List.Perm.refl _)

/-- Under more entries, in another order. -/
theorem OpC.frame {K : Cfg} {o : Oper} {ρ : Operand → FV} {I W : Nat → Prop} {x : FV} {k : Nat} {L L' : Heap} (h : OpC K o ρ I W x k L L') {M R : Heap} (p : M.Perm (R ++ L)) : ∃ M', OpC K o ρ I W x k M M' ∧ M'.Perm (R ++ L') := by
  have p' : M.Perm (L ++ R) := p.trans List.perm_append_comm
  cases h with
  | pure _ h => exact ⟨M, .pure M h, p⟩
  | read _ h => exact ⟨M, .read M ((h.frame R).perm p' p'.symm), p⟩
  | keep _ new h =>
    refine ⟨new ++ M, .keep M new ((h.frame R).perm p' ?_), ?_⟩
    · rw [List.append_assoc]; exact p'.symm.append_left new
    · refine (p.append_left new).trans ?_
      rw [← List.append_assoc, ← List.append_assoc]
      exact List.perm_append_comm.append_right L
  | any _ _ h => exact ⟨R ++ L', .any M _ ((h.frame R).perm p' List.perm_append_comm), List.Perm.refl _⟩
  | fresh _ new h =>
    refine ⟨new ++ M, .fresh M new h, ?_⟩
    refine (p.append_left new).trans ?_
    rw [← List.append_assoc, ← List.append_assoc]
    exact List.perm_append_comm.append_right L
  | local_ _ M1 M1' R1 q h hM hM' =>
    refine ⟨M1' ++ (R1 ++ R), .local_ M M1 M1' (R1 ++ R) ?_ h hM hM', ?_⟩
    · rw [← List.append_assoc]; exact p'.trans (q.append_right R)
    · rw [← List.append_assoc]; exact List.perm_append_comm

/-- What is said of a region's operations: the names that each may give, the names that those of kind 5 look at, the kinds, the operands and the values of those of kind 6, and which come before. -/
structure Gh where
  I : Nat → Nat → Prop
  W : Nat → Nat → Prop
  kd : Nat → Nat
  R : Nat → Operand → FV
  X : Nat → FV → Prop
  B : Nat → Nat → Prop

/-- 6 is a 1 whose value is remembered, 7 a 3 after which the remembered values are as before. -/
def kk (k : Nat) : Nat := if k = 6 then 1 else if k = 7 then 3 else k

section
variable (K : Cfg) (n : Nat) (ops : Array Oper) (G : Gh)

/-- What the remembered loads before i give. -/
def Still (i : Nat) (L : Heap) : Prop := ∀ i' o' x', G.B i i' → G.kd i' = 6 → ops[i']? = some o' → G.X i' x' → OpN K o' (G.R i') L (fun _ => False) x' L

/-- One operation of a region. -/
def Stp (i : Nat) (o : Oper) (E : Nat → FV) (L : Heap) (x : FV) (L' : Heap) : Prop :=
  dstOK n o.dst = true ∧ ((gdN ops o E = some true ∧ OpC K o (evN K E) (G.I i) (G.W i) x (kk (G.kd i)) L L' ∧ (G.kd i = 6 → G.X i x ∧ ∀ y, y ∈ o.op.operands → evN K E y = G.R i y) ∧ (G.kd i = 7 → Still K ops G i L')) ∨ (gdN ops o E = some false ∧ x = .val undef ∧ L' = L))

/-- Operations one after the other. -/
def WC : List Nat → (Nat → FV) → Heap → ((Nat → FV) → Heap → Prop) → Prop
  | [], E, L, C => C E L
  | i :: l, E, L, C => ∃ o x L', ops[i]? = some o ∧ Stp K n ops G i o E L x L' ∧ WC l (updO E o.dst x) L' C
end

def PermC (C : (Nat → FV) → Heap → Prop) : Prop := ∀ E L M, L.Perm M → C E L → C E M

section
variable {K : Cfg} {n : Nat} {ops : Array Oper} {G : Gh}

theorem Still.frame {i : Nat} {L M R : Heap} (h : Still K ops G i L) (p : M.Perm (R ++ L)) : Still K ops G i M := fun i' o' x' h1 h2 h3 h4 => by
  have p' : M.Perm (L ++ R) := p.trans List.perm_append_comm
  exact ((h i' o' x' h1 h2 h3 h4).frame R).perm p' p'.symm

theorem Stp.frame {i : Nat} {o : Oper} {E : Nat → FV} {L L' : Heap} {x : FV} (h : Stp K n ops G i o E L x L') {M R : Heap} (p : M.Perm (R ++ L)) : ∃ M', Stp K n ops G i o E M x M' ∧ M'.Perm (R ++ L') := by
  obtain ⟨hd, ⟨hg, h, h6, h7⟩ | ⟨hg, hx, rfl⟩⟩ := h
  · obtain ⟨M', h1, h2⟩ := h.frame p
    exact ⟨M', ⟨hd, Or.inl ⟨hg, h1, h6, fun h => (h7 h).frame h2⟩⟩, h2⟩
  · exact ⟨M, ⟨hd, Or.inr ⟨hg, hx, rfl⟩⟩, p⟩

theorem WC.perm {C : (Nat → FV) → Heap → Prop} (hC : PermC C) : ∀ (l : List Nat) {E : Nat → FV} {L M : Heap}, L.Perm M → WC K n ops G l E L C → WC K n ops G l E M C
  | [], E, L, M, p, h => hC E L M p h
  | i :: l, E, L, M, p, ⟨o, x, L', ho, hs, hw⟩ => by
    obtain ⟨M', h1, h2⟩ := hs.frame (M := M) (R := []) (by simpa using p.symm)
    exact ⟨o, x, M', ho, h1, WC.perm hC l (by simpa using h2.symm) hw⟩

theorem WC.under {C : (Nat → FV) → Heap → Prop} {i : Nat} {l l' : List Nat} {E : Nat → FV} {L : Heap} (h : WC K n ops G (i :: l) E L C)
    (hk : ∀ E' L', WC K n ops G l E' L' C → WC K n ops G l' E' L' C) : WC K n ops G (i :: l') E L C := by
  obtain ⟨o, x, L', ho, hs, hw⟩ := h
  exact ⟨o, x, L', ho, hs, hk _ _ hw⟩

theorem updO_comm (E : Nat → FV) {d e : Option Nat} (x y : FV) (h : ∀ c, d = some c → e ≠ some c) : updO (updO E d x) e y = updO (updO E e y) d x := by
  cases d with
  | none => rfl
  | some d =>
    cases e with
    | none => rfl
    | some e =>
      have hde : d ≠ e := fun he => h d rfl (by rw [he])
      funext i
      show updF (updF E d x) e y i = updF (updF E e y) d x i
      unfold updF
      by_cases h1 : i = e
      · subst h1; simp [Ne.symm hde]
      · by_cases h2 : i = d
        · subst h2; simp [hde]
        · simp [h1, h2]

/-- Slots that agree on what an operation looks at. -/
def AgreeN (ops : Array Oper) (o : Oper) (E E' : Nat → FV) : Prop := ∀ t, t ∈ looks ops o → E' t = E t

theorem AgreeN.ev {o : Oper} {E E' : Nat → FV} (h : AgreeN ops o E E') {y : Operand} (hy : y ∈ o.op.operands) : evN K E' y = evN K E y := by
  cases y with
  | tmp t => exact h t (by
      unfold looks
      refine List.mem_append_left _ (List.mem_filterMap.2 ⟨.tmp t, by simpa using hy, rfl⟩))
  | _ => rfl

theorem AgreeN.gd {o : Oper} {E E' : Nat → FV} (h : AgreeN ops o E E') : gdN ops o E' = gdN ops o E := by
  unfold gdN
  cases hg : o.guard with
  | none => rfl
  | some g =>
    obtain ⟨j, want⟩ := g
    simp only
    cases hd : (ops[j]?).bind (·.dst) with
    | none => rfl
    | some d =>
      simp only
      rw [h d (by unfold looks; simp [hg, hd])]

theorem AgreeN.put {o : Oper} {E : Nat → FV} {d : Option Nat} {x : FV} (h : ∀ e, d = some e → e ∉ looks ops o) : AgreeN ops o E (updO E d x) := fun t ht => by
  cases d with
  | none => rfl
  | some e =>
    show updF E e x t = E t
    unfold updF
    rw [if_neg (fun e' => h e rfl (by subst e'; exact ht))]

theorem AgreeN.symm {o : Oper} {E E' : Nat → FV} (h : AgreeN ops o E E') : AgreeN ops o E' E := fun t ht => (h t ht).symm

theorem OpC.congr {o : Oper} {ρ ρ2 : Operand → FV} {J V : Nat → Prop} {x : FV} {k : Nat} {L L' : Heap} (he : ∀ y, y ∈ o.op.operands → ρ2 y = ρ y) (h : OpC K o ρ J V x k L L') : OpC K o ρ2 J V x k L L' := by
  cases h with
  | pure _ h => exact .pure _ (h.congr he)
  | read _ h => exact .read _ (h.congr he)
  | keep _ new h => exact .keep _ _ (h.congr he)
  | any _ _ h => exact .any _ _ (h.congr he)
  | fresh _ new h => exact .fresh _ _ (h.congr he)
  | local_ _ M M' R p h hM hM' => exact .local_ _ M M' R p (h.congr he) hM hM'

theorem Stp.agree {i : Nat} {o : Oper} {E E' : Nat → FV} {L L' : Heap} {x : FV} (h : Stp K n ops G i o E L x L') (ha : AgreeN ops o E E') : Stp K n ops G i o E' L x L' := by
  obtain ⟨hd, ⟨hg, h, h6, h7⟩ | ⟨hg, hx, he⟩⟩ := h
  · exact ⟨hd, Or.inl ⟨by rw [ha.gd]; exact hg, h.congr fun y hy => ha.ev hy, fun h => ⟨(h6 h).1, fun y hy => by rw [ha.ev hy]; exact (h6 h).2 y hy⟩, h7⟩⟩
  · exact ⟨hd, Or.inr ⟨by rw [ha.gd]; exact hg, hx, he⟩⟩

/-- x, before y in the list, may as well come behind y. -/
def isRd (k : Nat) : Bool := Nat.beq k 1 || Nat.beq k 6
def laterOK (i j : Nat) : Bool := Nat.beq i 0 || Nat.beq j 0 || Nat.beq j 4 || (isRd i && (Nat.ble j 2 || Nat.beq j 6))
def delaysN (G : Gh) (i j : Nat) : Prop := laterOK (G.kd i) (G.kd j) = true ∨ (G.kd i = 5 ∧ G.kd j = 5 ∧ ∀ t, G.W j t → ¬ (G.W i t ∨ G.I i t)) ∨ (G.kd i = 6 ∧ G.kd j = 7 ∧ G.B j i)

/-- An operation that reads no entries. -/
theorem Stp.blind {i : Nat} {o : Oper} {E : Nat → FV} {L L' : Heap} {x : FV} (h : Stp K n ops G i o E L x L') (hk : G.kd i = 0 ∨ G.kd i = 4 ∨ gdN ops o E = some false) : ∃ new, L' = new ++ L ∧ ∀ M, Stp K n ops G i o E M x (new ++ M) := by
  obtain ⟨hd, ⟨hg, h, h6, h7⟩ | ⟨hg, hx, rfl⟩⟩ := h
  · have hk' : G.kd i = 0 ∨ G.kd i = 4 := by
      rcases hk with h | h | h
      · exact Or.inl h
      · exact Or.inr h
      · rw [hg] at h; cases h
    have n6 : G.kd i ≠ 6 := by omega
    have n7 : G.kd i ≠ 7 := by omega
    rcases hk' with hk' | hk'
    · have h' := h
      have e : kk (G.kd i) = 0 := by rw [hk']; rfl
      rw [e] at h'
      cases h' with
      | pure _ h' => exact ⟨[], rfl, fun M => ⟨hd, Or.inl ⟨hg, by rw [e]; exact .pure M h', fun h => absurd h n6, fun h => absurd h n7⟩⟩⟩
    · have h' := h
      have e : kk (G.kd i) = 4 := by rw [hk']; rfl
      rw [e] at h'
      cases h' with
      | fresh _ new h' => exact ⟨new, rfl, fun M => ⟨hd, Or.inl ⟨hg, by rw [e]; exact .fresh M new h', fun h => absurd h n6, fun h => absurd h n7⟩⟩⟩
  · exact ⟨[], rfl, fun M => ⟨hd, Or.inr ⟨hg, hx, rfl⟩⟩⟩

/-- An operation that changes nothing. -/
theorem Stp.still {i : Nat} {o : Oper} {E : Nat → FV} {L L' : Heap} {x : FV} (h : Stp K n ops G i o E L x L') (hk : G.kd i = 0 ∨ isRd (G.kd i) = true) : L' = L := by
  obtain ⟨hd, ⟨hg, h, _⟩ | ⟨hg, hx, he⟩⟩ := h
  · have hk' : kk (G.kd i) = 0 ∨ kk (G.kd i) = 1 := by
      rcases hk with hk | hk
      · rw [hk]; exact Or.inl rfl
      · unfold isRd at hk
        simp only [Bool.or_eq_true] at hk
        rcases hk with hk | hk
        · rw [Nat.eq_of_beq_eq_true hk]; exact Or.inr rfl
        · rw [Nat.eq_of_beq_eq_true hk]; exact Or.inr rfl
    rcases hk' with hk | hk
    · rw [hk] at h; cases h; rfl
    · rw [hk] at h; cases h; rfl
  · exact he

theorem Stp.adds {i : Nat} {o : Oper} {E : Nat → FV} {L L' : Heap} {x : FV} (h : Stp K n ops G i o E L x L') (hk : G.kd i ≤ 2 ∨ G.kd i = 6) : ∃ new, L' = new ++ L := by
  obtain ⟨hd, ⟨hg, h, _⟩ | ⟨hg, hx, he⟩⟩ := h
  · have hk' : kk (G.kd i) ≤ 2 := by
      unfold kk
      split
      · omega
      · split <;> omega
    generalize kk (G.kd i) = q at h hk'
    cases h with
    | pure _ h => exact ⟨[], rfl⟩
    | read _ h => exact ⟨[], rfl⟩
    | keep _ new h => exact ⟨new, rfl⟩
    | any _ _ h => omega
    | fresh _ new h => omega
    | local_ _ M M' R p h hM hM' => omega
  · exact ⟨[], he⟩

theorem WC.swap {C : (Nat → FV) → Heap → Prop} (hC : PermC C) {i j : Nat} {x y : Oper} {E : Nat → FV} {L : Heap} {l : List Nat} (hi : ops[i]? = some x) (hj : ops[j]? = some y) (hap : apart ops x y = true) (hlk : delaysN G i j)
    (h : WC K n ops G (i :: j :: l) E L C) : WC K n ops G (j :: i :: l) E L C := by
  obtain ⟨a1, a2, a3⟩ := apart_spec hap
  obtain ⟨o1, u, L1, ho1, s1, o2, v, L2, ho2, s2, hw⟩ := h
  rw [hi] at ho1; cases ho1
  rw [hj] at ho2; cases ho2
  have hy0 : AgreeN ops y (updO E x.dst u) E := (AgreeN.put a1).symm
  have hx0 : AgreeN ops x E (updO E y.dst v) := AgreeN.put a3
  have s2' := s2.agree hy0
  have hE : updO (updO E x.dst u) y.dst v = updO (updO E y.dst v) x.dst u := updO_comm E u v a2
  -- it is enough to have both the other way round
  suffices hs : ∃ M1 M2, Stp K n ops G j y E L v M1 ∧ Stp K n ops G i x E M1 u M2 ∧ L2.Perm M2 by
    obtain ⟨M1, M2, t1, t2, p⟩ := hs
    exact ⟨y, v, M1, hj, t1, x, u, M2, hi, t2.agree hx0, by rw [← hE]; exact WC.perm hC l p hw⟩
  have blindJ : (G.kd j = 0 ∨ G.kd j = 4 ∨ gdN ops y E = some false) → ∃ M1 M2, Stp K n ops G j y E L v M1 ∧ Stp K n ops G i x E M1 u M2 ∧ L2.Perm M2 := fun hk => by
    obtain ⟨new, e, hb⟩ := s2'.blind hk
    obtain ⟨M2, t2, p⟩ := s1.frame (M := new ++ L) (R := new) (List.Perm.refl _)
    exact ⟨new ++ L, M2, hb L, t2, by rw [e]; exact p.symm⟩
  have blindI : (G.kd i = 0 ∨ gdN ops x E = some false) → ∃ M1 M2, Stp K n ops G j y E L v M1 ∧ Stp K n ops G i x E M1 u M2 ∧ L2.Perm M2 := fun hk => by
    obtain ⟨new, e, hb⟩ := s1.blind (hk.imp id Or.inr)
    have e2 : L1 = L := by
      rcases hk with hk | hk
      · exact s1.still (Or.inl hk)
      · obtain ⟨_, ⟨hg, _⟩ | ⟨_, _, he⟩⟩ := s1
        · rw [hk] at hg; cases hg
        · exact he
    have hn : new = [] := by
      have := e.symm.trans e2
      have hl := congrArg List.length this
      simp at hl
      exact hl
    subst e2; subst hn
    exact ⟨L2, L2, s2', hb L2, List.Perm.refl _⟩
  rcases hlk with hlk | ⟨hk, hk', hsep⟩ | ⟨hk, hk', hB⟩
  · unfold laterOK at hlk
    simp only [Bool.or_eq_true, Bool.and_eq_true] at hlk
    rcases hlk with ((h | h) | h) | ⟨h, h'⟩
    · exact blindI (Or.inl (Nat.eq_of_beq_eq_true h))
    · exact blindJ (Or.inl (Nat.eq_of_beq_eq_true h))
    · exact blindJ (Or.inr (Or.inl (Nat.eq_of_beq_eq_true h)))
    · have e2 := s1.still (Or.inr h)
      subst e2
      obtain ⟨new, e⟩ := s2'.adds (h'.imp Nat.le_of_ble_eq_true Nat.eq_of_beq_eq_true)
      subst e
      obtain ⟨M2, t2, p⟩ := s1.frame (M := new ++ L1) (R := new) (List.Perm.refl _)
      exact ⟨new ++ L1, M2, s2', t2, p.symm⟩
  · by_cases hgi : gdN ops x E = some false
    · exact blindI (Or.inr hgi)
    · by_cases hgj : gdN ops y E = some false
      · exact blindJ (Or.inr (Or.inr hgj))
      · obtain ⟨hd1, s1⟩ := s1
        obtain ⟨hd2, s2'⟩ := s2'
        rcases s1.symm with ⟨hg1, _⟩ | ⟨hg1, c1, _⟩
        · exact absurd hg1 hgi
        rcases s2'.symm with ⟨hg2, _⟩ | ⟨hg2, c2, _⟩
        · exact absurd hg2 hgj
        have e1 : kk (G.kd i) = 5 := by rw [hk]; rfl
        have e2 : kk (G.kd j) = 5 := by rw [hk']; rfl
        rw [e1] at c1
        rw [e2] at c2
        cases c1 with
        | local_ _ Mi Mi' Ri p h hM hM' =>
          cases c2 with
          | local_ _ Mj Mj' Rj q h2 hN hN' =>
            obtain ⟨S, q1, q2⟩ := perm_apart (A := Mi') (B := Ri) (C := Mj) (D := Rj) q (fun r hr hr' => hsep r.1 (hN r hr) (hM' r hr'))
            refine ⟨Mj' ++ (Mi ++ S), Mi' ++ (Mj' ++ S), ⟨hd2, Or.inl ⟨hg2, ?_, by omega, by omega⟩⟩, ⟨hd1, Or.inl ⟨hg1, ?_, by omega, by omega⟩⟩, ?_⟩
            · rw [e2]
              refine .local_ _ Mj Mj' (Mi ++ S) ?_ h2 hN hN'
              refine p.trans ((q1.append_left Mi).trans ?_)
              rw [← List.append_assoc, ← List.append_assoc]
              exact List.perm_append_comm.append_right S
            · rw [e1]
              refine .local_ _ Mi Mi' (Mj' ++ S) ?_ h hM hM'
              rw [← List.append_assoc, ← List.append_assoc]
              exact List.perm_append_comm.append_right S
            · refine (q2.append_left Mj').trans ?_
              rw [← List.append_assoc, ← List.append_assoc]
              exact List.perm_append_comm.append_right S
  · by_cases hgi : gdN ops x E = some false
    · exact blindI (Or.inr hgi)
    · by_cases hgj : gdN ops y E = some false
      · exact blindJ (Or.inr (Or.inr hgj))
      · have e0 := s1.still (Or.inr (by rw [hk]; rfl))
        subst e0
        refine ⟨L2, L2, s2', ?_, List.Perm.refl _⟩
        obtain ⟨hd1, s1⟩ := s1
        obtain ⟨hd2, s2'⟩ := s2'
        rcases s1.symm with ⟨hg1, _⟩ | ⟨hg1, c1, h6, _⟩
        · exact absurd hg1 hgi
        rcases s2'.symm with ⟨hg2, _⟩ | ⟨hg2, c2, _, h7⟩
        · exact absurd hg2 hgj
        obtain ⟨hX, hR⟩ := h6 hk
        have hre := h7 hk' i x u hB hk hi hX
        refine ⟨hd1, Or.inl ⟨hg1, ?_, h6, fun h => by omega⟩⟩
        have e1 : kk (G.kd i) = 1 := by rw [hk]; rfl
        rw [e1]
        exact .read _ ((hre.congr hR).names (fun t h => h.elim))
end
end Go.Fs

namespace Go.Fs
open Go

/-- What an operation must come behind. -/
def binders (o : Oper) : List Nat := o.after.toList.filterMap fun e => bif Region.binds .any e then some e.on else none
def maskOf (tb : List Nat) (l : List Nat) : Nat := l.foldr (fun e m => Nat.lor (Nat.lor (Nat.shiftLeft 1 e) (tb.getD e 0)) m) 0
def masksGo : List Oper → List Nat → List Nat
  | [], tb => tb
  | o :: r, tb => masksGo r (tb ++ [maskOf tb (binders o)])
/-- Of each operation: all that it must come behind. -/
def masks (ops : Array Oper) : List Nat := masksGo ops.toList []
def preT (tb : List Nat) (i j : Nat) : Bool := Nat.testBit (tb.getD j 0) i

theorem testBit_one_shift (e i : Nat) : Nat.testBit (Nat.shiftLeft 1 e) i = true → i = e := fun h => by
  have h' : Nat.testBit (1 <<< e) i = true := h
  rw [Nat.testBit_shiftLeft] at h'
  simp only [Bool.and_eq_true, decide_eq_true_eq] at h'
  have h2 := h'.2
  cases hk : i - e with
  | zero => omega
  | succ k =>
    rw [hk, Nat.testBit_succ] at h2
    simp at h2

theorem maskOf_spec {tb : List Nat} {i : Nat} : ∀ {l : List Nat}, Nat.testBit (maskOf tb l) i = true → ∃ e, e ∈ l ∧ (i = e ∨ Nat.testBit (tb.getD e 0) i = true)
  | [], h => by simp [maskOf] at h
  | e :: l, h => by
    have h' : Nat.testBit (Nat.lor (Nat.lor (Nat.shiftLeft 1 e) (tb.getD e 0)) (maskOf tb l)) i = true := h
    have h2 : Nat.testBit (((Nat.shiftLeft 1 e) ||| (tb.getD e 0)) ||| (maskOf tb l)) i = true := h'
    rw [Nat.testBit_or, Nat.testBit_or] at h2
    simp only [Bool.or_eq_true] at h2
    rcases h2 with (h2 | h2) | h2
    · exact ⟨e, by simp, Or.inl (testBit_one_shift e i h2)⟩
    · exact ⟨e, by simp, Or.inr h2⟩
    · obtain ⟨e', he, hh⟩ := maskOf_spec h2
      exact ⟨e', by simp [he], hh⟩

theorem masksGo_get : ∀ (l : List Oper) (tb : List Nat) (j : Nat) (o : Oper), l[j]? = some o → ∃ tb', (masksGo l tb).getD (tb.length + j) 0 = maskOf tb' (binders o) ∧ tb'.length = tb.length + j ∧ ∀ i, i < tb.length + j → tb'.getD i 0 = (masksGo l tb).getD i 0
  | [], tb, j, o, h => by simp at h
  | p :: l, tb, 0, o, h => by
    simp at h; subst h
    have keep : ∀ (l : List Oper) (tb : List Nat) (i : Nat), i < tb.length → (masksGo l tb).getD i 0 = tb.getD i 0 := by
      intro l
      induction l with
      | nil => intro tb i _; rfl
      | cons q l ih =>
        intro tb i hi
        show (masksGo l _).getD i 0 = _
        rw [ih _ i (by simp; omega)]
        simp [List.getD, List.getElem?_append_left hi]
    refine ⟨tb, ?_, by simp, fun i hi => ?_⟩
    · show (masksGo l (tb ++ [maskOf tb (binders p)])).getD (tb.length + 0) 0 = _
      rw [keep _ _ _ (by simp)]
      simp [List.getD]
    · show _ = (masksGo l (tb ++ [maskOf tb (binders p)])).getD i 0
      rw [keep _ _ _ (by simp; omega)]
      simp [List.getD, List.getElem?_append_left (by omega : i < tb.length)]
  | p :: l, tb, j + 1, o, h => by
    simp at h
    obtain ⟨tb', h1, h2, h3⟩ := masksGo_get l (tb ++ [maskOf tb (binders p)]) j o h
    simp only [List.length_append, List.length_cons, List.length_nil] at h1 h2 h3
    refine ⟨tb', ?_, by omega, fun i hi => h3 i (by omega)⟩
    show (masksGo l (tb ++ [maskOf tb (binders p)])).getD _ 0 = _
    rw [← h1]; congr 1; omega

/-- A set that is closed under what must come before, and has what j must come directly behind, has all that j must come behind. -/
theorem preT_listed {ops : Array Oper} (hb : backwards ops = true) {S : Nat → Prop} (hS : ∀ j o, S j → ops[j]? = some o → ∀ e ∈ o.after, Region.binds .any e = true → S e.on) :
    ∀ (j : Nat) (o : Oper), ops[j]? = some o → (∀ e ∈ o.after, Region.binds .any e = true → S e.on) → ∀ i, preT (masks ops) i j = true → S i := by
  intro j
  induction j using Nat.strongRecOn with
  | _ j ih =>
    intro o ho hd i hi
    obtain ⟨tb', h1, h2, h3⟩ := masksGo_get ops.toList [] j o (by simpa using ho)
    simp only [List.length_nil, Nat.zero_add] at h1 h2 h3
    unfold preT masks at hi
    rw [h1] at hi
    obtain ⟨e, he, hh⟩ := maskOf_spec hi
    unfold binders at he
    obtain ⟨d, hd1, hd2⟩ := List.mem_filterMap.1 he
    cases hbd : Region.binds .any d with
    | false => rw [hbd] at hd2; cases hd2
    | true =>
      rw [hbd] at hd2
      simp only [cond_true, Option.some.injEq] at hd2
      have hda : d ∈ o.after := by simpa using hd1
      have hSe : S e := by rw [← hd2]; exact hd d hda hbd
      rcases hh with rfl | hh
      · exact hSe
      · have hlt : e < j := by rw [← hd2]; exact backwards_spec hb ho d hda hbd
        rw [h3 e hlt] at hh
        have hjs : j < ops.size := (Array.getElem?_eq_some_iff.1 ho).1
        obtain ⟨o', ho'⟩ : ∃ o', ops[e]? = some o' := ⟨ops[e]'(by omega), by simp [show e < ops.size by omega]⟩
        exact ih e hlt o' ho' (fun e' he' hb' => hS e o' hSe ho' e' he' hb') i hh

/-- May i, before j in the list, come behind j (or never does)? kind 5 twice: only if they are known to be apart. -/
def okPairB (ops : Array Oper) (tb : List Nat) (kd : Nat → Nat) (i j : Nat) : Bool := match ops[i]?, ops[j]? with
  | some x, some y => preT tb i j || (apart ops x y && (laterOK (kd i) (kd j) || (Nat.beq (kd i) 5 && Nat.beq (kd j) 5) || (Nat.beq (kd i) 6 && Nat.beq (kd j) 7)))
  | _, _ => false

def okPairsB (ops : Array Oper) (tb : List Nat) (kd : Nat → Nat) : List Nat → Bool
  | [] => true
  | i :: l => l.all (okPairB ops tb kd i) && okPairsB ops tb kd l

/-- That an order may stand for all others. -/
def drawN (ops : Array Oper) (kd : Nat → Nat) (π : List Nat) : Bool :=
  okPairsB ops (masks ops) kd π && backwards ops && distinctN π && Nat.beq π.length ops.size && π.all (fun i => Nat.blt i ops.size) && (List.range ops.size).all (memN π)

section
variable {K : Cfg} {n : Nat} {ops : Array Oper} {G : Gh}

/-- Of two of kind 5, the later one looks at none of the names of the first; a remembered load comes before those that keep it. -/
def Sep (G : Gh) : List Nat → Prop
  | [] => True
  | i :: l => (G.kd i = 5 → ∀ j, j ∈ l → G.kd j = 5 → ∀ t, G.W j t → ¬ (G.W i t ∨ G.I i t)) ∧ (G.kd i = 6 → ∀ j, j ∈ l → G.kd j = 7 → G.B j i) ∧ Sep G l

def okPairN (ops : Array Oper) (G : Gh) (i j : Nat) : Prop := ∃ x y, ops[i]? = some x ∧ ops[j]? = some y ∧ (preT (masks ops) i j = true ∨ (apart ops x y = true ∧ delaysN G i j))

def okPairsN (ops : Array Oper) (G : Gh) : List Nat → Prop
  | [] => True
  | i :: l => (∀ j, j ∈ l → okPairN ops G i j) ∧ okPairsN ops G l

theorem okPairs_of : ∀ {l : List Nat}, okPairsB ops (masks ops) G.kd l = true → Sep G l → okPairsN ops G l
  | [], _, _ => trivial
  | i :: l, h, hs => by
    simp only [okPairsB, Bool.and_eq_true, List.all_eq_true] at h
    refine ⟨fun j hj => ?_, okPairs_of h.2 hs.2.2⟩
    have h1 := h.1 j hj
    unfold okPairB at h1
    cases hx : ops[i]? with
    | none => simp [hx] at h1
    | some x =>
      cases hy : ops[j]? with
      | none => simp [hx, hy] at h1
      | some y =>
        simp only [hx, hy, Bool.or_eq_true, Bool.and_eq_true] at h1
        refine ⟨x, y, hx, hy, ?_⟩
        rcases h1 with h1 | ⟨h1, h2⟩
        · exact Or.inl h1
        · refine Or.inr ⟨h1, ?_⟩
          rcases h2 with (h2 | ⟨h2, h3⟩) | ⟨h2, h3⟩
          · exact Or.inl h2
          · have e1 := Nat.eq_of_beq_eq_true h2
            have e2 := Nat.eq_of_beq_eq_true h3
            exact Or.inr (Or.inl ⟨e1, e2, hs.1 e1 j hj e2⟩)
          · have e1 := Nat.eq_of_beq_eq_true h2
            have e2 := Nat.eq_of_beq_eq_true h3
            exact Or.inr (Or.inr ⟨e1, e2, hs.2.1 e1 j hj e2⟩)

/-- An operation of the list brought to its front. -/
theorem WC.front {C : (Nat → FV) → Heap → Prop} (hC : PermC C) {i : Nat} {l2 : List Nat} : ∀ (l1 : List Nat) {E : Nat → FV} {L : Heap}, okPairsN ops G (l1 ++ i :: l2) → (∀ k, k ∈ l1 → preT (masks ops) k i = false) →
    WC K n ops G (l1 ++ i :: l2) E L C → WC K n ops G (i :: (l1 ++ l2)) E L C
  | [], _, _, _, _, h => h
  | k :: l1, E, L, hp, hn, h => by
    have hki := hp.1 i (by simp)
    obtain ⟨x, y, hx, hy, hor⟩ := hki
    have hdel : apart ops x y = true ∧ delaysN G k i := by
      rcases hor with h' | h'
      · rw [hn k (by simp)] at h'; cases h'
      · exact h'
    have h1 : WC K n ops G (k :: i :: (l1 ++ l2)) E L C := by
      have h' : WC K n ops G (k :: (l1 ++ i :: l2)) E L C := h
      exact h'.under fun E' L' hw => WC.front hC l1 hp.2 (fun k' hk' => hn k' (by simp [hk'])) hw
    exact WC.swap hC hx hy hdel.1 hdel.2 h1

theorem okPairsN_split {i : Nat} {l2 : List Nat} : ∀ (l1 : List Nat), okPairsN ops G (l1 ++ i :: l2) → okPairsN ops G (l1 ++ l2)
  | [], h => h.2
  | k :: l1, h => ⟨fun j hj => h.1 j (by simp at hj ⊢; rcases hj with h | h <;> simp [h]), okPairsN_split l1 h.2⟩

theorem WC.go {C : (Nat → FV) → Heap → Prop} (hC : PermC C) (hb : backwards ops = true) : ∀ (fuel : Nat) (t : Nat) (listed : Array Bool) (rem : List Nat) (E : Nat → FV) (L : Heap), rem.length = fuel → rem.Nodup → listed.size = ops.size → (∀ i, i < ops.size → (listed.getD i true = false ↔ i ∈ rem)) → (∀ i, i ∈ rem → i < ops.size) →
    (∀ j o, listed.getD j true = true → ops[j]? = some o → ∀ e ∈ o.after, Region.binds .any e = true → listed.getD e.on false = true) →
    okPairsN ops G rem → WC K n ops G rem E L C → ∃ l, Region.linearise.go .any ops fuel t listed [] = l ∧ l.Perm rem ∧ WC K n ops G l E L C
  | 0, t, listed, rem, E, L, hl, _, _, _, _, _, _, h => by
    have : rem = [] := List.eq_nil_of_length_eq_zero hl
    subst this
    exact ⟨[], by simp [Region.linearise.go], List.Perm.refl _, h⟩
  | fuel + 1, t, listed, rem, E, L, hl, hnd, hsz, hli, hlt, hcl, hop, h => by
    simp only [Region.linearise.go]
    change ∃ l, (match (Region.ready .any ops listed)[t % (Region.ready .any ops listed).length]? with
      | some i => Region.linearise.go .any ops fuel (t / (Region.ready .any ops listed).length) (listed.setIfInBounds i true) [i]
      | none => [].reverse) = l ∧ l.Perm rem ∧ WC K n ops G l E L C
    cases hi : (Region.ready .any ops listed)[t % (Region.ready .any ops listed).length]? with
    | none =>
      exfalso
      have hnil : Region.ready .any ops listed = [] := by
        cases hr : Region.ready .any ops listed with
        | nil => rfl
        | cons x xs =>
          rw [hr] at hi
          have hlt : t % (x :: xs).length < (x :: xs).length := Nat.mod_lt _ (by simp)
          simp at hi
          simp at hlt
          omega
      obtain ⟨i, him, hleast⟩ := exists_least (l := rem) (by intro e; rw [e] at hl; cases hl)
      have hil := hlt i him
      obtain ⟨o, ho⟩ : ∃ o, ops[i]? = some o := ⟨ops[i], by simp [hil]⟩
      have : i ∈ Region.ready .any ops listed := mem_ready.2 ⟨(hli i hil).2 him, o, ho, fun e he hbd => by
        have hlt' := backwards_spec hb ho e he hbd
        have hnm : e.on ∉ rem := fun hm => Nat.lt_irrefl _ (Nat.lt_of_lt_of_le hlt' (hleast _ hm))
        have h1 := mt (hli e.on (Nat.lt_trans hlt' hil)).1 hnm
        have hes : e.on < listed.size := by rw [hsz]; exact Nat.lt_trans hlt' hil
        simp [hes] at h1 ⊢
        exact h1⟩
      rw [hnil] at this; cases this
    | some i =>
      simp only []
      rw [linearise_go_acc, List.reverse_singleton, List.singleton_append]
      have hri := List.mem_of_getElem? hi
      obtain ⟨hun, o, ho, hall⟩ := mem_ready.1 hri
      have hil : i < ops.size := (Array.getElem?_eq_some_iff.1 ho).1
      have him := (hli i hil).1 hun
      obtain ⟨l1, l2, hspl⟩ := List.append_of_mem him
      subst hspl
      have hnp : ∀ k, k ∈ l1 → preT (masks ops) k i = false := fun k hk => by
        cases hpre : preT (masks ops) k i with
        | false => rfl
        | true =>
          exfalso
          have h1 := preT_listed hb (S := fun j => listed.getD j false = true) (fun j o hj hjo e he hbd => by
            refine hcl j o ?_ hjo e he hbd
            have hjs : j < listed.size := by
              rcases Nat.lt_or_ge j listed.size with h' | h'
              · exact h'
              · have e0 : listed.getD j false = false := by simp [Array.getD, Nat.not_lt.2 h']
                rw [e0] at hj; cases hj
            simp [Array.getD, hjs] at hj ⊢
            exact hj) i o ho (fun e he hbd => hall e he hbd) k hpre
          have hkm : k ∈ l1 ++ i :: l2 := by simp [hk]
          have hks := hlt k hkm
          have h2 := (hli k hks).2 hkm
          have hks' : k < listed.size := by rw [hsz]; exact hks
          simp [hks'] at h1 h2
          rw [h1] at h2; cases h2
      have hfront := WC.front hC l1 hop hnp h
      have hop' := okPairsN_split l1 hop
      obtain ⟨o', x, L', ho', hs, hw⟩ := hfront
      have hnd' := List.nodup_append.1 hnd
      obtain ⟨l, e, hp, hw'⟩ := WC.go hC hb fuel (t / (Region.ready .any ops listed).length) (listed.setIfInBounds i true) (l1 ++ l2) _ _ (by simp at hl ⊢; omega) (hnd.sublist (List.Sublist.append (List.Sublist.refl _) (List.sublist_cons_self i l2))) (by simp [hsz]) (fun j hj => by
        by_cases hij : i = j
        · subst hij
          have : i < listed.size := by rw [hsz]; exact hil
          simp only [Array.getD_eq_getD_getElem?, Array.getElem?_setIfInBounds_self]
          simp only [this, if_true, Option.getD_some]
          constructor
          · intro e; cases e
          · intro hm
            exfalso
            rcases List.mem_append.1 hm with h | h
            · exact hnd'.2.2 i h i (by simp) rfl
            · exact (List.nodup_cons.1 hnd'.2.1).1 h
        · rw [getD_set_ne true hij, hli j hj]
          simp only [List.mem_append, List.mem_cons]
          constructor
          · rintro (h | h | h)
            · exact Or.inl h
            · exact absurd h.symm hij
            · exact Or.inr h
          · rintro (h | h)
            · exact Or.inl h
            · exact Or.inr (Or.inr h)) (fun j hj => hlt j (by simp at hj ⊢; rcases hj with h | h <;> simp [h])) (fun j o1 hj hjo e he hbd => by
          have hset : ∀ m, m ≠ i → (listed.setIfInBounds i true).getD m false = listed.getD m false := fun m hm => getD_set_ne false (fun e => hm e.symm)
          have hsi : (listed.setIfInBounds i true).getD i false = true := by
            have : i < listed.size := by rw [hsz]; exact hil
            simp only [Array.getD_eq_getD_getElem?, Array.getElem?_setIfInBounds_self]
            simp only [this, if_true, Option.getD_some]
          have hl : listed.getD e.on false = true := by
            by_cases hij : i = j
            · subst hij
              rw [ho] at hjo; cases hjo
              exact hall e he hbd
            · rw [getD_set_ne true hij] at hj
              exact hcl j o1 hj hjo e he hbd
          by_cases hei : e.on = i
          · rw [hei]; exact hsi
          · rw [hset _ hei]; exact hl) hop' hw
      refine ⟨i :: l, by rw [e], ?_, ⟨o', x, L', ho', hs, hw'⟩⟩
      exact (hp.cons i).trans List.perm_middle.symm

theorem OpC.names {o : Oper} {ρ : Operand → FV} {J J' V V' : Nat → Prop} {x : FV} {k : Nat} {L L' : Heap} (hj : ∀ t, J t → J' t) (hv : ∀ t, V t → V' t) (h : OpC K o ρ J V x k L L') : OpC K o ρ J' V' x k L L' := by
  cases h with
  | pure _ h => exact .pure _ (h.names hj)
  | read _ h => exact .read _ (h.names hj)
  | keep _ new h => exact .keep _ _ (h.names hj)
  | any _ _ h => exact .any _ _ (h.names hj)
  | fresh _ new h => exact .fresh _ _ (h.names hj)
  | local_ _ M M' R p h hM hM' => exact .local_ _ M M' R p (h.names hj) (fun q hq => hv _ (hM q hq)) (fun q hq => (hM' q hq).imp (hv _) (hj _))

/-- One order serves every order. -/
theorem WC.all {C : (Nat → FV) → Heap → Prop} (hC : PermC C) {π : List Nat} {E : Nat → FV} {L : Heap} (hok : drawN ops G.kd π = true) (hsep : Sep G π) (h : WC K n ops G π E L C) :
    ∀ t, (Region.schedule true ops t).Perm π ∧ π.Nodup ∧ WC K n ops G (Region.schedule true ops t) E L C := fun t => by
  unfold drawN at hok
  simp only [Bool.and_eq_true, List.all_eq_true] at hok
  obtain ⟨⟨⟨⟨⟨h1, h2⟩, h3⟩, h4⟩, h5⟩, h6⟩ := hok
  have h4' : π.length = ops.size := Nat.eq_of_beq_eq_true h4
  have h5' : ∀ i, i ∈ π → i < ops.size := fun i hi => Nat.le_of_ble_eq_true (h5 i hi)
  have hnd := distinctN_spec h3
  simp only [Region.schedule, Bool.true_or, if_true, Region.linearise]
  obtain ⟨l, e, hp, hw⟩ := WC.go hC h2 ops.size t (Array.replicate ops.size false) π E L h4' hnd (by simp) (fun i hi => by simp [hi]; exact memN_iff.1 (h6 i (List.mem_range.2 hi))) h5' (fun j o hj hjo => by
    have : j < ops.size := (Array.getElem?_eq_some_iff.1 hjo).1
    simp [Array.getD, this] at hj) (okPairs_of h1 hsep) h
  rw [e]
  exact ⟨hp, hnd, hw⟩

/-- Names that the operations of a list use. -/
def Uses (I : Nat → Nat → Prop) (l : List Nat) : Nat → Prop := fun t => ∃ i, i ∈ l ∧ I i t

/-- What holds of the machine where the operations have been carried out. -/
def QN (K : Cfg) (n : Nat) (C : (Nat → FV) → Heap → Prop) (Z : Ctx) (F : Heap) (U : Nat → Prop) (e : Exit) (a : Act) (w : World) : Prop :=
  e = .normal ∧ ∃ Z' E' L', Ctx.le Z Z' ∧ RN n Z' w F E' L' a ∧ Same U Z Z' ∧ GOK K Z' ∧ C E' L'

theorem WC.sound {C : (Nat → FV) → Heap → Prop} {F : Heap} {Z0 : Ctx} {U : Nat → Prop} : ∀ (l : List Nat) {E : Nat → FV} {L : Heap}, WC K n ops G l E L C → l.Nodup → (∀ i j t, i ∈ l → j ∈ l → i ≠ j → G.I i t → ¬ G.I j t) → (∀ t, Uses G.I l t → U t) →
    ∀ {Z : Ctx} {w : World} {a : Act}, Ctx.le Z0 Z → Same U Z0 Z → RN n Z w F E L a → Free (Uses G.I l) Z → GOK K Z → wpOps K.P ops (QN K n C Z0 F U) l a w
  | [], E, L, h, _, _, _, Z, w, a, hz, hs, r, _, hg => ⟨rfl, Z, E, L, hz, r, hs, hg, h⟩
  | i :: l, E, L, ⟨o, x, L', ho, ⟨hd, hst⟩, hw⟩, hnd, hdj, hU, Z, w, a, hz, hs, r, hf, hg => by
    have hnd' := List.nodup_cons.1 hnd
    have hdj' : ∀ i j t, i ∈ l → j ∈ l → i ≠ j → G.I i t → ¬ G.I j t := fun i j t hi hj => hdj i j t (List.mem_cons_of_mem _ hi) (List.mem_cons_of_mem _ hj)
    have hU' : ∀ t, Uses G.I l t → U t := fun t ⟨j, hj, ht⟩ => hU t ⟨j, List.mem_cons_of_mem _ hj, ht⟩
    simp only [wpOps, ho]
    rcases hst with ⟨hgd, hop, _⟩ | ⟨hgd, rfl, rfl⟩
    · rw [gdN_ok hgd r]
      simp only [if_true]
      refine Or.inl ?_
      refine Does.upon ?_
      refine Does.mono (fun v w' h => ?_) (hop.opN Z w F a.eval r.heap (fun t ht => hf t ⟨i, List.mem_cons_self, ht⟩) hg (fun y _ => r.ev hg y))
      obtain ⟨Z', h1, h2, h3, h4⟩ := h
      refine WC.sound l hw hnd'.2 hdj' hU' (hz.trans h1) (hs.trans (h3.mono fun t ht => hU t ⟨i, List.mem_cons_self, ht⟩)) ((r.to h1 h2).put hd h4) (fun t ht => ?_) (hg.mono h1)
      obtain ⟨j, hj, ht'⟩ := ht
      rw [h3 t (fun hi => hdj i j t List.mem_cons_self (List.mem_cons_of_mem _ hj) (fun e => hnd'.1 (by subst e; exact hj)) hi ht')]
      exact hf t ⟨j, List.mem_cons_of_mem _ hj, ht'⟩
    · rw [gdN_ok hgd r]
      simp only [Bool.false_eq_true, if_false]
      exact WC.sound l hw hnd'.2 hdj' hU' hz hs (r.put hd (VR.val undef)) (fun t ⟨j, hj, ht⟩ => hf t ⟨j, List.mem_cons_of_mem _ hj, ht⟩) hg

end

/-- From name c on, below c'. -/
def Rng (c c' : Nat) : Nat → Prop := fun t => c ≤ t ∧ t < c'

/-- From here the frame comes to its return, in a state of D. -/
def SN (K : Cfg) (n : Nat) (k : List Item) (E : Nat → FV) (L : Heap) (c c' : Nat) (D : (Nat → FV) → Heap → Prop) : Prop :=
  ∀ (Z : Ctx) (w : World) (F : Heap) (a : Act), RN n Z w F E L a → Free (Rng c c') Z → GOK K Z → ∀ (b : Frame) (cs : List Frame),
    ∃ Z' w' E' L' a' todo, Ctx.le Z Z' ∧ RN n Z' w' F E' L' a' ∧ D E' L' ∧ Same (Rng c c') Z Z' ∧ Steps K.P (lone (b.at a k) cs w) (lone { b.at a' todo with mode := .returning } cs w')

section rules
variable {K : Cfg} {n : Nat} {k : List Item} {E : Nat → FV} {L : Heap} {c c' : Nat} {D : (Nat → FV) → Heap → Prop}

theorem SN.of_step {k' : List Item} (hs : ∀ (b : Frame) (a : Act) (cs : List Frame) (w : World), step K.P (lone (b.at a k) cs w) = .next (lone (b.at a k') cs w)) (h : SN K n k' E L c c' D) : SN K n k E L c c' D :=
  fun Z w F a r hf hg b cs => let ⟨Z', w', E', L', a', todo, h1, h2, h3, h4, h5⟩ := h Z w F a r hf hg b cs; ⟨Z', w', E', L', a', todo, h1, h2, h3, h4, .head (hs b a cs w) h5⟩

theorem SN.nil (h : D E L) : SN K n [] E L c c' D := fun Z w _ a r _ _ _ _ => ⟨Z, w, E, L, a, [], Ctx.le.refl Z, r, h, Same.refl _ _, .one step_end⟩
theorem SN.ret (h : D E L) : SN K n (.code .ret :: k) E L c c' D := fun Z w _ a r _ _ _ _ => ⟨Z, w, E, L, a, _, Ctx.le.refl Z, r, h, Same.refl _ _, .one step_ret⟩
theorem SN.skip (h : SN K n k E L c c' D) : SN K n (.code .skip :: k) E L c c' D := SN.of_step (fun _ _ _ _ => step_skip) h
theorem SN.label {l : Nat} (h : SN K n k E L c c' D) : SN K n (.code (.label l) :: k) E L c c' D := SN.of_step (fun _ _ _ _ => step_label) h
theorem SN.inBlock {id : Nat} (h : SN K n k E L c c' D) : SN K n (.inBlock id :: k) E L c c' D := SN.of_step (fun _ _ _ _ => step_inBlock) h
theorem SN.seq {x y : Code} (h : SN K n (.code x :: .code y :: k) E L c c' D) : SN K n (.code (.seq x y) :: k) E L c c' D := SN.of_step (fun _ _ _ _ => step_seq) h
theorem SN.block {id : Nat} {x : Code} (h : SN K n (.code x :: .inBlock id :: k) E L c c' D) : SN K n (.code (.block id x) :: k) E L c c' D := SN.of_step (fun _ _ _ _ => step_block) h
theorem SN.loop {x : Code} (h : SN K n (.code x :: .inLoop x :: k) E L c c' D) : SN K n (.code (.loop x) :: k) E L c c' D := SN.of_step (fun _ _ _ _ => step_loop) h
theorem SN.inLoop {x : Code} (h : SN K n (.code x :: .inLoop x :: k) E L c c' D) : SN K n (.inLoop x :: k) E L c c' D := SN.of_step (fun _ _ _ _ => step_inLoop) h
theorem SN.exit {id : Nat} {k' : List Item} (hk : exitTo id k = some k') (h : SN K n k' E L c c' D) : SN K n (.code (.exit id) :: k) E L c c' D := SN.of_step (fun _ _ _ _ => step_exit hk) h

theorem SN.cond {q : Operand} {x y : Code} {t : Bool} (hc : evN K E q = .bool t) (h : SN K n (.code (bif t then x else y) :: k) E L c c' D) : SN K n (.code (.cond q x y) :: k) E L c c' D :=
  fun Z w F a r hf hg b cs => by
    obtain ⟨Z', w', E', L', a', todo, h1, h2, h3, h4, h5⟩ := h Z w F a r hf hg b cs
    have h0 := r.ev hg q
    rw [hc] at h0
    refine ⟨Z', w', E', L', a', todo, h1, h2, h3, h4, .head (step_cond (VR.bool_inv h0)) ?_⟩
    cases t <;> exact h5

/-- Names from c1 on may be used by what follows; those before by what came. -/
theorem SN.after {c1 : Nat} (hcc : c ≤ c1) (hcc' : c1 ≤ c') {Z Z1 : Ctx} {w1 : World} {F : Heap} {a1 : Act} {E1 : Nat → FV} {L1 : Heap} (hz : Ctx.le Z Z1) (hs : Same (Rng c c1) Z Z1) (r : RN n Z1 w1 F E1 L1 a1) (hf : Free (Rng c c') Z) (hg : GOK K Z1)
    (h : SN K n k E1 L1 c1 c' D) (b : Frame) (cs : List Frame) : ∃ Z' w' E' L' a' todo, Ctx.le Z Z' ∧ RN n Z' w' F E' L' a' ∧ D E' L' ∧ Same (Rng c c') Z Z' ∧ Steps K.P (lone (b.at a1 k) cs w1) (lone { b.at a' todo with mode := .returning } cs w') := by
  obtain ⟨Z2, w2, E2, L2, a2, todo, h1, h2, h3, h4, h5⟩ := h Z1 w1 F a1 r (fun t ht => by
    rw [hs t (fun hi => Nat.lt_irrefl _ (Nat.lt_of_lt_of_le hi.2 ht.1))]
    exact hf t ⟨Nat.le_trans hcc ht.1, ht.2⟩) hg b cs
  exact ⟨Z2, w2, E2, L2, a2, todo, hz.trans h1, h2, h3, (hs.mono fun t ht => ⟨ht.1, Nat.lt_of_lt_of_le ht.2 hcc'⟩).trans (h4.mono fun t ht => ⟨Nat.le_trans hcc ht.1, ht.2⟩), h5⟩

theorem SN.region {id : Nat} {ops : Array Oper} {G : Gh} {c1 : Nat} (hcc : c ≤ c1) (hcc' : c1 ≤ c') (hdj : ∀ i j t, i ≠ j → G.I i t → ¬ G.I j t) (hI : ∀ i t, G.I i t → Rng c c1 t)
    (h : WC K n ops G (List.range ops.size) E L fun E1 L1 => SN K n k E1 L1 c1 c' D) : SN K n (.code (.region id ops false) :: k) E L c c' D := fun Z w F a r hf hg b cs => by
  obtain ⟨e, a', w', ⟨rfl, Z', E', L', hz, r', hs, hg', hk⟩, harr⟩ := wp_ops _ a w (h.sound (Z0 := Z) (F := F) (U := Rng c c1) _ List.nodup_range (fun i j t _ _ => hdj i j t) (fun t ⟨i, _, ht⟩ => hI i t ht) (Ctx.le.refl Z) (Same.refl _ _) r
    (fun t ⟨i, _, ht⟩ => hf t ⟨(hI i t ht).1, Nat.lt_of_lt_of_le (hI i t ht).2 hcc'⟩) hg) b k cs
  obtain ⟨Z2, w2, E2, L2, a2, todo, h1, h2, h3, h4, h5⟩ := SN.after hcc hcc' hz hs r' hf hg' hk b cs
  exact ⟨Z2, w2, E2, L2, a2, todo, h1, h2, h3, h4, .head step_region (Steps.trans harr h5)⟩

theorem SN.perm {L M : Heap} (p : L.Perm M) (h : SN K n k E L c c' D) : SN K n k E M c c' D := fun Z w F a r hf hg b cs =>
  h Z w F a ⟨r.defers, r.size, r.heap.perm (p.symm.append_right F), r.env⟩ hf hg b cs

theorem SN.regionDraw (hmix : K.P.follows .mixedOrders = true) {id : Nat} {ops : Array Oper} {π : List Nat} {G : Gh} {c1 : Nat} (hok : drawN ops G.kd π = true) (hsep : Sep G π) (hcc : c ≤ c1) (hcc' : c1 ≤ c')
    (hdj : ∀ i j t, i ≠ j → G.I i t → ¬ G.I j t) (hI : ∀ i t, G.I i t → Rng c c1 t)
    (h : WC K n ops G π E L fun E1 L1 => SN K n k E1 L1 c1 c' D) : SN K n (.code (.region id ops true) :: k) E L c c' D := fun Z w F a r hf hg b cs => by
  have r1 : RN n Z { w with drawn := w.drawn + 1 } F E L a := ⟨r.defers, r.size, r.heap.drew, r.env⟩
  obtain ⟨hp, hnd, hw⟩ := WC.all (C := fun E1 L1 => SN K n k E1 L1 c1 c' D) (fun E1 L1 M1 p h => SN.perm p h) hok hsep h (w.tape w.drawn (.order b.fn id))
  obtain ⟨e, a', w', ⟨rfl, Z', E', L', hz, r', hs, hg', hk⟩, harr⟩ := wp_ops _ a _ (hw.sound (Z0 := Z) (F := F) (U := Rng c c1) _ (hp.nodup_iff.2 hnd) (fun i j t _ _ => hdj i j t) (fun t ⟨i, _, ht⟩ => hI i t ht) (Ctx.le.refl Z) (Same.refl _ _) r1
    (fun t ⟨i, _, ht⟩ => hf t ⟨(hI i t ht).1, Nat.lt_of_lt_of_le (hI i t ht).2 hcc'⟩) hg) b k cs
  obtain ⟨Z2, w2, E2, L2, a2, todo, h1, h2, h3, h4, h5⟩ := SN.after hcc hcc' hz hs r' hf hg' hk b cs
  refine ⟨Z2, w2, E2, L2, a2, todo, h1, h2, h3, h4, .head step_region_draw ?_⟩
  rw [hmix]
  exact Steps.trans harr h5
end rules
end Go.Fs

namespace Go.Fs
open Go

/-- A new row of a given name, of which the first k elements never change again. -/
theorem HeapOK.newRowAt {Z : Ctx} {w : World} {L : Heap} (h : HeapOK Z w L) {t : Nat} (ht : Z.nm t = none) {sz N k : Nat} {es : List (List FV)} {vs : Array Value} (ty : TypeId) (hsz : 0 < sz) (hN : vs.size = N * sz) (hle : es.length ≤ N) (hk : k ≤ es.length)
    (hel : ∀ e, e ∈ es → e.length = sz) (hv : ∀ i j, i < es.length → j < sz → VR Z ((es.getD i []).getD j .und) (vs.getD (i * sz + j) undef)) :
    ∃ Z', Ctx.le Z Z' ∧ HeapOK Z' (w.alloc (.cells vs ty)) ((t, .row sz k es) :: L) ∧ Z'.nm t = some (some w.heap.size) ∧ Z'.size w.heap.size = some (N * sz) ∧ Same (fun u => u = t) Z Z' := by
  have hkN : k * sz ≤ vs.size := by
    rw [hN]; exact Nat.mul_le_mul_right sz (by omega)
  let Z1 := Z.know w.heap.size vs.size (k * sz) vs
  have h1 : HeapOK Z1 (w.alloc (.cells vs ty)) L := h.allocKnown vs ty (k * sz) hkN
  have le1 : Ctx.le Z Z1 := Ctx.le_know h _ _ _
  have ht1 : Z1.nm t = none := ht
  let Z2 := Z1.name t (some w.heap.size)
  have h2 : HeapOK Z2 (w.alloc (.cells vs ty)) L := h1.name ht1 (fun c hc => by cases hc; simp)
  have le2 : Ctx.le Z1 Z2 := Ctx.le_name ht1
  have hs : Z2.size w.heap.size = some (N * sz) := by
    show Z1.size w.heap.size = _
    rw [← hN]; exact Ctx.know_size
  refine ⟨Z2, le1.trans le2, ?_, Ctx.name_self, hs, fun u hu => ?_⟩
  · have hb : blkOf Z2 (t, .row sz k es) = some w.heap.size := by simp [blkOf, Z2, Ctx.name_self]
    refine ⟨?_, fun q hm => ?_, fun q c hm hq => ?_, h2.cell, h2.size, h2.nm, h2.fresh, h2.old, h2.os, h2.out, h2.tape⟩
    · rw [List.filterMap_cons_some hb, List.nodup_cons]
      refine ⟨fun hm => ?_, h2.nodup⟩
      obtain ⟨q, hm, e⟩ := List.mem_filterMap.1 hm
      have e' : blkOf Z q = some w.heap.size := by rw [← blkOf_mono (le1.trans le2) (h.obj q hm)]; exact e
      have := h.lt hm e'
      omega
    · rcases List.mem_cons.1 hm with e | hm
      · subst e
        unfold ObjAt
        rw [hb]
        refine Or.inr ⟨w.heap.size, Ctx.name_self, vs, ty, (0, 0), N, ?_, fun i _ => by simp, hN, hs, hsz, hle, hk, hel, fun i hi => ?_, fun i hi => ?_, fun i j hi hj => (hv i j hi hj).mono (le1.trans le2)⟩
        · exact alloc_new
        · exact Ctx.know_cell_none (n := vs.size) hi
        · exact Ctx.know_cell (n := vs.size) hi
      · exact h2.obj q hm
    · rcases List.mem_cons.1 hm with e | hm
      · subst e
        rw [hb] at hq; cases hq
        exact h.old_new
      · exact h2.notOld q c hm hq
  · show (Z1.name t (some w.heap.size)).nm u = Z.nm u
    have : ¬ u = t := hu
    simp only [Ctx.name, if_neg this]
    rfl

section
variable {K : Cfg} {o : Oper} {ρ : Operand → FV} {τ : Nat}

/-- A new variable. -/
theorem newVar_ok {Z : Ctx} {w : World} {F : Heap} {cs : List FV} {vs : Array Value} {ty : TypeId} (hh : HeapOK Z w F) (ht : Z.nm τ = none) (hs : 0 < cs.length) (hv : VRs Z cs vs) :
    ∃ Z', Ctx.le Z Z' ∧ HeapOK Z' (w.alloc (.cells vs ty)) ([(τ, .row cs.length 0 [cs])] ++ F) ∧ Same (fun u => u = τ) Z Z' ∧ VR Z' (.rp cs.length τ 0 0) (.pointer (some ⟨w.heap.size, 0, none⟩)) := by
  obtain ⟨Z', h1, h2, h3, _, h5⟩ := hh.newRowAt ht (sz := cs.length) (N := 1) (k := 0) (es := [cs]) (vs := vs) ty hs (by rw [hv.len]; omega) (by simp) (by simp) (fun e he => by simp at he; subst he; rfl) (fun i j hi hj => by
    have : i = 0 := by simp at hi; omega
    subst this
    simpa using hv.get j hj)
  refine ⟨Z', h1, h2, h5, ?_⟩
  have := VR.rp (Z := Z') cs.length τ 0 0 w.heap.size h3
  simpa using this

theorem OpN_alloc {t : TypeId} {z : Value} {n : Nat} (ho : o.op = .alloc t) (hz : zeroOf K.P t = some z) (hp : (ofC z).plain = true) (hl : (ofC z).cells.length = n) (hn : 0 < n) :
    OpN K o ρ [] (fun u => u = τ) (.rp n τ 0 0) [(τ, .row n 0 [(ofC z).cells])] := fun Z w F ρ' hh hf _ _ => by
  have hzr := ((VR.ofC Z z).plainCells hp).1
  have h1 : (execOp ρ' o).run K.P w = .ok (.value (.pointer (some ⟨w.heap.size, 0, none⟩))) (w.alloc (.cells z.cells t)) := by
    simp [execOp, ho, Instr.alloc, zeroOf_run hz, newVar, newRow]
  rw [h1]
  obtain ⟨Z', a1, a2, a3, a4⟩ := newVar_ok (τ := τ) (ty := t) hh (hf τ rfl) (by omega) hzr
  subst hl
  exact ⟨Z', a1, a2, a3, a4⟩

theorem OpN_box {t : TypeId} {y : Operand} {n : Nat} (ho : o.op = .box t y) (hp : (ρ y).plain = true) (hl : (ρ y).cells.length = n) (hn : 0 < n) :
    OpN K o ρ [] (fun u => u = τ) (.rp n τ 0 0) [(τ, .row n 0 [(ρ y).cells])] := fun Z w F ρ' hh hf _ hr => by
  have hzr := ((hr y (by simp [ho, Op.operands])).plainCells hp).1
  have h1 : (execOp ρ' o).run K.P w = .ok (.value (.pointer (some ⟨w.heap.size, 0, none⟩))) (w.alloc (.cells (ρ' y).cells t)) := by
    simp [execOp, ho, Instr.box, newVar, newRow]
  rw [h1]
  obtain ⟨Z', a1, a2, a3, a4⟩ := newVar_ok (τ := τ) (ty := t) hh (hf τ rfl) (by omega) hzr
  subst hl
  exact ⟨Z', a1, a2, a3, a4⟩

theorem OpN_makeSlice {t : TypeId} {y z : Operand} {k1 k2 : IntKind} {n m sz eb : Nat} {zv : Value} (ho : o.op = .makeSlice t y z) (hy : ρ y = .int k1 n) (hz : ρ z = .int k2 m) (ht : kdOf K.P t = 5)
    (hzv : zeroOf K.P (elOf K.P t) = some zv) (hs : eszOf K.P t = some sz) (heb : ebOf K.P t = some eb) (hp : (ofC zv).plain = true) (hzl : (ofC zv).cells.length = sz) (hsz : 0 < sz) (hnm : n ≤ m) (hm : m < LB) (hb : eb ≤ 256) :
    OpN K o ρ [] (fun u => u = τ) (.rsl sz τ 0 n) [(τ, .row sz 0 (List.replicate n (ofC zv).cells))] := fun Z w F ρ' hok hf _ hr => by
  have h1 := hr y (by simp [ho, Op.operands])
  have h2 := hr z (by simp [ho, Op.operands])
  rw [hy] at h1
  rw [hz] at h2
  have e1 := (VR.int_inv h1).1
  have e2 := (VR.int_inv h2).1
  have hzr := ((VR.ofC Z zv).plainCells hp).1
  have hrows := zeroRows (n := m) hzr hzl
  have hbytes : ∃ it, K.P.info? (elOf K.P t) = some it ∧ it.bytes = eb := by
    unfold ebOf at heb
    cases hi : K.P.info? (elOf K.P t) with
    | none => simp [hi] at heb
    | some it => exact ⟨it, rfl, by simpa [hi] using heb⟩
  obtain ⟨it, hit, hib⟩ := hbytes
  have hmB : m < 68719476736 := hm
  have hw : IntKind.i64.wrap (n : Int) = n := wrap_id ⟨by omega, by omega⟩
  have hw2 : IntKind.i64.wrap (m : Int) = m := wrap_id ⟨by omega, by omega⟩
  have e : (2 : Int) ^ 48 = 281474976710656 := by decide
  have hprod : ∀ q : Nat, q < 68719476736 → (it.bytes : Int) * q ≤ 2 ^ 48 := fun q hq => by
    have : it.bytes * q ≤ 256 * 68719476736 := Nat.mul_le_mul (by omega) (by omega)
    rw [e]
    have h3 : (it.bytes : Int) * q = ((it.bytes * q : Nat) : Int) := by simp
    rw [h3]; omega
  have hp1 := hprod n (by omega)
  have hp2 := hprod m hmB
  have hrun : (execOp ρ' o).run K.P w = .ok (.value (.slice (some ⟨w.heap.size, 0, none⟩) n m)) (w.alloc (.cells ((Array.range (m * sz)).map (zv.cells[· % zv.cells.size]!)) (elOf K.P t))) := by
    have hcells : ∀ (f g : Nat → Value), m * sz = 0 → (Array.range (m * sz)).map f = (Array.range (m * sz)).map g := by
      intro f g h0; rw [h0, Array.range_zero']; simp
    by_cases h0 : m * sz = 0
    · simp only [execOp, ho, Instr.makeSlice, e1, e2, Sem.run_bind, run_underlying (und_slice ht), Result.andThen_ok, asInt, asIntOf, typeInfo, hit, run_program, Sem.run_pure, hw, hw2]
      rw [if_neg (by simp; omega)]
      have hc := hcells (fun x => zv.cells[x % zv.cells.size]!) (fun _ => undef) h0
      rw [hc]
      simp [run_sizeOf w hs, h0, Go.newRow, Array.range_zero']
    · simp only [execOp, ho, Instr.makeSlice, e1, e2, Sem.run_bind, run_underlying (und_slice ht), Result.andThen_ok, asInt, asIntOf, typeInfo, hit, run_program, Sem.run_pure, hw, hw2]
      rw [if_neg (by simp; omega)]
      simp [run_sizeOf w hs, h0, Go.newRow, zeroOf_run hzv]
  rw [hrun]
  have hrn := zeroRows (n := n) hzr hzl
  obtain ⟨Z', hle, hnew, hnm', hsize, hsame⟩ := hok.newRowAt (hf τ rfl) (N := m) (k := 0) (es := List.replicate n (ofC zv).cells) (vs := (Array.range (m * sz)).map (zv.cells[· % zv.cells.size]!)) (elOf K.P t) hsz (by simp) (by rw [List.length_replicate]; exact hnm) (Nat.zero_le _) hrn.len (fun i j hi hj => by
    rw [List.length_replicate] at hi
    have h3 := hrows.get i j (by simp; omega) hj
    have e1 : (List.replicate n (ofC zv).cells).getD i [] = (ofC zv).cells := by simp [List.getD, hi]
    have e2 : (List.replicate m (ofC zv).cells).getD i [] = (ofC zv).cells := by simp [List.getD, show i < m by omega]
    rw [e1]; rw [e2] at h3; exact h3)
  refine ⟨Z', hle, hnew, hsame, ?_⟩
  have := VR.rsl (Z := Z') sz τ w.heap.size 0 n m hnm' (by simpa using hsize) hnm (by omega)
  simpa using this
end
end Go.Fs

namespace Go.Fs
open Go

theorem HeapOK.head {Z : Ctx} {w : World} {L : Heap} {p q : Nat × FObj} (h : HeapOK Z w (p :: L)) (hb : blkOf Z q = blkOf Z p) (ho : ObjAt Z w q) : HeapOK Z w (q :: L) := by
  refine ⟨?_, fun r hm => ?_, fun r b hm hr => ?_, h.cell, h.size, h.nm, h.fresh, h.old, h.os, h.out, h.tape⟩
  · have := h.nodup
    simp only [List.filterMap_cons, hb] at this ⊢
    exact this
  · rcases List.mem_cons.1 hm with e | hm
    · subst e; exact ho
    · exact h.obj r (List.mem_cons_of_mem _ hm)
  · rcases List.mem_cons.1 hm with e | hm
    · subst e
      rw [hb] at hr
      exact h.notOld p b List.mem_cons_self hr
    · exact h.notOld r b (List.mem_cons_of_mem _ hm) hr

/-- A row of which less is said. -/
theorem HeapOK.shrink {Z : Ctx} {w : World} {L : Heap} {τ sz : Nat} {es : List (List FV)} (n : Nat) (h : HeapOK Z w ((τ, .row sz 0 es) :: L)) : HeapOK Z w ((τ, .row sz 0 (es.take n)) :: L) := by
  refine h.head rfl ?_
  have ho := h.obj _ List.mem_cons_self
  unfold ObjAt at ho ⊢
  rcases ho with ⟨hn, rfl, _, hs⟩ | ⟨b, hn, vs, ty, fr, N, h1, h2, h3, h4, h5, h6, h7, h8, h9, h10, h11⟩
  · exact Or.inl ⟨hn, by simp, rfl, hs⟩
  · refine Or.inr ⟨b, hn, vs, ty, fr, N, h1, h2, h3, h4, h5, by simp; omega, Nat.zero_le _, fun e he => h8 e (List.mem_of_mem_take he), h9, h10, fun i j hi hj => ?_⟩
    simp at hi
    have := h11 i j (by omega) hj
    have e : (es.take n).getD i [] = es.getD i [] := by simp [List.getD, List.getElem?_take, show i < n by omega]
    rw [e]; exact this

/-- An entry under another name. -/
theorem HeapOK.rename {Z : Ctx} {w : World} {L : Heap} {τ τ' sz k : Nat} {es : List (List FV)} (h : HeapOK Z w ((τ, .row sz k es) :: L)) (ht : Z.nm τ' = none) :
    ∃ Z', Ctx.le Z Z' ∧ Same (fun u => u = τ') Z Z' ∧ Z'.nm τ' = Z.nm τ ∧ Z'.size = Z.size ∧ HeapOK Z' w ((τ', .row sz k es) :: L) := by
  have ho := h.obj _ List.mem_cons_self
  obtain ⟨q, hq, hqb⟩ : ∃ q, Z.nm τ = some q ∧ ∀ c, q = some c → True := by
    rcases ho with ⟨hn, _⟩ | ⟨b, hn, _⟩
    · exact ⟨none, hn, fun c hc => by cases hc⟩
    · exact ⟨some b, hn, fun _ _ => trivial⟩
  have hne : τ ≠ τ' := fun e => by rw [e, ht] at hq; cases hq
  have h2 := h.name (b := q) ht hqb
  have hτ : (Z.name τ' q).nm τ = Z.nm τ := by simp [Ctx.name, hne]
  have hτ' : (Z.name τ' q).nm τ' = Z.nm τ := by rw [hq]; exact Ctx.name_self
  refine ⟨Z.name τ' q, Ctx.le_name ht, fun u hu => ?_, hτ', rfl, h2.head ?_ ?_⟩
  · have hu' : ¬ u = τ' := hu
    simp [Ctx.name, hu']
  · simp [blkOf, hτ, hτ']
  · have ho2 := h2.obj _ List.mem_cons_self
    unfold ObjAt at ho2 ⊢
    have hb : blkOf (Z.name τ' q) (τ', FObj.row sz k es) = blkOf (Z.name τ' q) (τ, FObj.row sz k es) := by simp [blkOf, hτ, hτ']
    rw [hb]
    rcases ho2 with ⟨hn, h'⟩ | ⟨b, hn, h'⟩
    · exact Or.inl ⟨by rw [hτ', ← hτ]; exact hn, h'⟩
    · exact Or.inr ⟨b, by rw [hτ', ← hτ]; exact hn, h'⟩

section
variable {K : Cfg} {o : Oper} {ρ : Operand → FV} {τ : Nat}

structure AppT (P : Program) (st : TypeId) (sz : Nat) : Prop where
  ht : kdOf P st = 5
  hs : eszOf P st = some sz
  pos : 0 < sz
  ex : ∃ (eb : Nat) (zv : Value), ebOf P st = some eb ∧ 0 < eb ∧ eb ≤ 256 ∧ zeroOf P (elOf P st) = some zv ∧ zv.cells.size = sz

/-- A slice without room grows. -/
theorem append_grow {P : Program} {c : Call} {st xt : TypeId} {y z : Operand} {sz n : Nat} {es news : List (List FV)} {Z : Ctx} {w : World} {L : Heap} {ρ' : Operand → Value} (ho : o.op = .call c) (hcal : c.callee = .builtin .append) (hargs : c.args = #[y, z]) (hts : c.argTypes = #[st, xt])
    (hok : HeapOK Z w L) (hτ : Z.nm τ = none) (hsrc : Src Z w P sz news (ρ' z)) (ha : AppT P st sz) (hxt : kdOf P xt = 5 ∨ kdOf P xt = 3) (hn : es.length = n) (hel : ∀ e, e ∈ es → e.length = sz) (hl : (es ++ news).length < LB)
    {base : Option Addr} {cap : Nat} {vs : Array Value} (hyv : ρ' y = .slice base n cap) (hcap : cap < n + news.length) (hvs : n * sz ≤ vs.size)
    (hval : ∀ i j, i < es.length → j < sz → VR Z ((es.getD i []).getD j .und) (vs.getD (i * sz + j) undef))
    (hold : ∀ w', (∀ b i, w'.cell? ⟨b, i, none⟩ = w.cell? ⟨b, i, none⟩) → (Builtin.firstCells sz n (.slice base n cap)).run P w' = .ok (vs.extract 0 (n * sz)) w') :
    ∃ v w' Z', (execOp ρ' o).run P w = .ok (.value v) w' ∧ Ctx.le Z Z' ∧ HeapOK Z' w' ((τ, .row sz 0 (es ++ news)) :: L) ∧ Same (fun u => u = τ) Z Z' ∧ VR Z' (.rsl sz τ 0 (n + news.length)) v := by
  obtain ⟨ht, hs, hsz, eb, zv, heb, hb0, hb1, hzv, hzl⟩ := ha
  obtain ⟨a, hrunA, hasz, haone, hav⟩ := hsrc.cells
  have hlen : n + news.length < 68719476736 := by simp [hn] at hl; exact hl
  obtain ⟨it, hit, hib⟩ : ∃ it, P.info? (elOf P st) = some it ∧ it.bytes = eb := by
    unfold ebOf at heb
    cases hi : P.info? (elOf P st) with
    | none => simp [hi] at heb
    | some it => exact ⟨it, rfl, by simpa [hi] using heb⟩
  have hnc := nextcap_le hcap
  have hnb : Builtin.nextslicecap (n + news.length) cap * it.bytes ≤ 2 ^ 48 := by
    have h2 : Builtin.nextslicecap (n + news.length) cap * it.bytes ≤ (2 * 68719476736 + 768) * 256 := Nat.mul_le_mul (by omega) (by omega)
    omega
  obtain ⟨nc, hle, hrun⟩ := run_append_grow (ty := o.type) w ht hxt hs hit hzv (hsrc.len w) hcap hnb hold hrunA (by omega)
  rw [← hyv] at hrun
  have hsize : (vs.extract 0 (n * sz) ++ a ++ Builtin.zeroCells zv.cells (nc - (n + news.length))).size = nc * sz := by
    have hex : (vs.extract 0 (n * sz)).size = n * sz := by simp; omega
    rw [Array.size_append, Array.size_append, hex, hasz, zeroCells_size, hzl, ← Nat.add_mul, ← Nat.add_mul]
    congr 1; omega
  have hrow := Rows.append (Z := Z) (rest := Builtin.zeroCells zv.cells (nc - (n + news.length))) hn hasz hvs hval hav
  have hel' : ∀ e, e ∈ es ++ news → e.length = sz := fun e he => by
    rcases List.mem_append.1 he with he | he
    · exact hel e he
    · exact hsrc.hl e he
  obtain ⟨Z', hz', hnew, hnm, hsz', hsame⟩ := hok.drew.newRowAt (t := τ) hτ (elOf P st) hsz hsize (by simp [hn]; omega) (Nat.zero_le _) hel' hrow
  refine ⟨_, _, Z', append_exec ho hcal hargs hts hrun, hz', hnew, hsame, ?_⟩
  have := VR.rsl (Z := Z') sz τ w.heap.size 0 (n + news.length) nc hnm (by simpa using hsz') hle hlen
  simpa using this

/-- A row that has room takes the new elements. -/
theorem append_stay {P : Program} {c : Call} {st xt : TypeId} {y z : Operand} {sz n b N : Nat} {es news : List (List FV)} {Z : Ctx} {w : World} {L : Heap} {ρ' : Operand → Value} (ho : o.op = .call c) (hcal : c.callee = .builtin .append) (hargs : c.args = #[y, z]) (hts : c.argTypes = #[st, xt])
    (hok : HeapOK Z w ((τ, .row sz 0 es) :: L)) (hnm : Z.nm τ = some (some b)) (hsz : Z.size b = some (N * sz)) (hsrc : Src Z w P sz news (ρ' z)) (ha : AppT P st sz) (hxt : kdOf P xt = 5 ∨ kdOf P xt = 3) (hn : es.length = n) (hl : (es ++ news).length < LB)
    (hyv : ρ' y = .slice (some ⟨b, 0, none⟩) n N) (hcap : n + news.length ≤ N) :
    ∃ v w', (execOp ρ' o).run P w = .ok (.value v) w' ∧ HeapOK Z w' ((τ, .row sz 0 (es ++ news)) :: L) ∧ VR Z (.rsl sz τ 0 (n + news.length)) v := by
  obtain ⟨ht, hs, hsz0, _⟩ := ha
  obtain ⟨a, hrunA, hasz, haone, hav⟩ := hsrc.cells
  have hlen : n + news.length < 68719476736 := by simp [hn] at hl; exact hl
  have hobj := hok.obj _ (List.mem_cons_self)
  rcases hobj with ⟨hn1, _⟩ | ⟨c', hc', vs, tyy, frr, N', r1, r2, r3, r4, r5, r6, r7, r8, r9, r10, r11⟩
  · rw [hnm] at hn1; cases hn1
  · rw [hnm] at hc'; cases hc'
    have hx1 : w.heap[b]? = some (.cells vs tyy frr) := by simpa [blkOf, hnm] using r1
    rw [r4] at hsz
    have hNN : N' = N := by
      simp only [Option.some.injEq] at hsz
      exact Nat.eq_of_mul_eq_mul_right hsz0 hsz
    subst hNN
    have hfit : n * sz + a.toList.length ≤ vs.size := by
      have h3 : (n + news.length) * sz ≤ N' * sz := Nat.mul_le_mul_right sz hcap
      rw [Nat.add_mul] at h3
      simp only [Array.length_toList]; omega
    have hst := storeCells_ok (P := P) b (n * sz) tyy frr a.toList 0 vs w hx1 (by omega) r2 haone
    have hrun := run_append_stay (P := P) (ty := o.type) (base := some ⟨b, 0, none⟩) (w := w) ht hxt hs (hsrc.len w) hcap (hrunA w (fun _ _ => rfl)) (by
      show (storeCells ((⟨b, 0, none⟩ : Addr).add (n * sz)) a.toList).run P w = _
      rw [addr_add, Nat.zero_add]; exact hst)
    rw [← hyv] at hrun
    simp only [Nat.add_zero] at hrun
    have hal : a.toList.length = news.length * sz := by simpa using hasz
    have hvals : ∀ i d, i < (es ++ news).length → d < sz → VR Z (((es ++ news).getD i []).getD d .und) ((wr vs (n * sz) a.toList).getD (i * sz + d) undef) := by
      intro i d hi hd
      simp [hn] at hi
      rw [wr_get _ _ _ _ hfit, hal]
      by_cases hc : i < n
      · have hlt := row_lt hc hd
        rw [if_neg (by omega)]
        have e1 : (es ++ news).getD i [] = es.getD i [] := by simp [List.getD, List.getElem?_append_left (by omega : i < es.length)]
        rw [e1]; exact r11 i d (by omega) hd
      · have hi2 : i - n < news.length := by omega
        have hlt := row_lt hi2 hd
        have e3 : i * sz + d - n * sz = (i - n) * sz + d := by
          have : i * sz = (i - n) * sz + n * sz := by rw [← Nat.add_mul]; congr 1; omega
          omega
        have hge : n * sz ≤ i * sz + d := by
          have : n * sz ≤ i * sz := Nat.mul_le_mul_right sz (by omega)
          omega
        rw [if_pos (by omega), e3]
        have e1 : (es ++ news).getD i [] = news.getD (i - n) [] := by simp [List.getD, List.getElem?_append_right (by omega : es.length ≤ i), hn]
        have e2 : a.toList.getD ((i - n) * sz + d) undef = a.getD ((i - n) * sz + d) undef := by simp [List.getD, Array.getD, show (i - n) * sz + d < a.size by omega]
        rw [e1, e2]; exact hav _ d hi2 hd
    have hnew := hok.modify (b := b) (p' := (τ, .row sz 0 (es ++ news))) (by simp [blkOf, hnm]) (by simp [blkOf, hnm]) (x := .cells (wr vs (n * sz) a.toList) tyy frr)
      (fun d v hd => by rw [r9 d (by omega)] at hd; cases hd)
      (fun m hm => by rw [r4] at hm; cases hm; exact ⟨_, tyy, frr, rfl, by rw [wr_size]; exact r3⟩)
      (Or.inr ⟨b, hnm, _, tyy, frr, N', rfl, by rw [wr_size]; exact r2, by rw [wr_size]; exact r3, r4, r5, by simp [hn]; omega, Nat.zero_le _,
        fun e he => by
          rcases List.mem_append.1 he with he | he
          · exact r8 e he
          · exact hsrc.hl e he,
        r9, fun d hd => by omega, hvals⟩)
    refine ⟨_, _, append_exec ho hcal hargs hts hrun, hnew, ?_⟩
    have := VR.rsl (Z := Z) sz τ b 0 (n + news.length) N' hnm (by rw [Nat.zero_add]; exact r4) hcap hlen
    simpa using this

/-- What is appended can be read, whatever the frame. -/
def SrcN (K : Cfg) (L : Heap) (sz : Nat) (news : List (List FV)) (x : FV) : Prop := ∀ Z w F v, HeapOK Z w (L ++ F) → VR Z x v → Src Z w K.P sz news v

/-- append to a row. -/
theorem OpN_append {c : Call} {st xt : TypeId} {y z : Operand} {sz τ0 n : Nat} {es news : List (List FV)} {R : Heap} (ho : o.op = .call c) (hcal : c.callee = .builtin .append) (hargs : c.args = #[y, z]) (hts : c.argTypes = #[st, xt])
    (hy : ρ y = .rsl sz τ0 0 n) (hsrc : SrcN K ((τ0, .row sz 0 es) :: R) sz news (ρ z)) (ha : AppT K.P st sz) (hxt : kdOf K.P xt = 5 ∨ kdOf K.P xt = 3) (hn : n ≤ es.length) (hl : n + news.length < LB) :
    OpN K o ρ ((τ0, .row sz 0 es) :: R) (fun u => u = τ) (.rsl sz τ 0 (n + news.length)) ((τ, .row sz 0 (es.take n ++ news)) :: R) := fun Z w F ρ' hok hf _ hr => by
  have g1 := hr y (by simp [ho, Op.operands, Call.operands, hcal, hargs])
  have g2 := hr z (by simp [ho, Op.operands, Call.operands, hcal, hargs])
  rw [hy] at g1
  have hs := hsrc Z w F _ hok g2
  have hok1 : HeapOK Z w ((τ0, .row sz 0 (es.take n)) :: (R ++ F)) := HeapOK.shrink n (by simpa using hok)
  have hnl : (es.take n).length = n := by simp; omega
  have hτ := hf τ rfl
  have hl' : (es.take n ++ news).length < LB := by simp only [List.length_append, hnl]; exact hl
  have hobj := hok1.obj _ (List.mem_cons_self)
  rcases VR.rsl_inv g1 with ⟨b, cap, hyv, hnm, hsize, hcapn, _⟩ | ⟨a0, hyv, hnm, _, hn0⟩
  · rcases hobj with ⟨hn1, _⟩ | ⟨c', hc', vs, tyy, frr, N, r1, r2, r3, r4, r5, r6, r7, r8, r9, r10, r11⟩
    · rw [hnm] at hn1; cases hn1
    · rw [hnm] at hc'; cases hc'
      simp only [Nat.zero_add] at hsize
      simp only [Nat.zero_mul] at hyv
      have hNcap : N = cap := by
        rw [r4] at hsize
        simp only [Option.some.injEq] at hsize
        exact Nat.eq_of_mul_eq_mul_right r5 hsize
      subst hNcap
      by_cases hcap : n + news.length ≤ N
      · obtain ⟨Z1, e1, e2, e3, e4, e5⟩ := hok1.rename hτ
        have hs1 : Src Z1 w K.P sz news (ρ' z) := ⟨hs.len, hs.hl, by
          obtain ⟨a, q1, q2, q3, q4⟩ := hs.cells
          exact ⟨a, q1, q2, q3, fun i j hi hj => (q4 i j hi hj).mono e1⟩⟩
        obtain ⟨v, w', f1, f2, f3⟩ := append_stay (τ := τ) ho hcal hargs hts e5 (by rw [e3]; exact hnm) (by rw [e4]; exact r4) hs1 ha hxt hnl hl' hyv hcap
        rw [f1]
        exact ⟨Z1, e1, by simpa using f2, e2, f3⟩
      · have hx1 : w.heap[b]? = some (.cells vs tyy frr) := by simpa [blkOf, hnm] using r1
        have hnsz : n * sz ≤ vs.size := by rw [r3]; exact Nat.mul_le_mul_right sz (by omega)
        obtain ⟨v, w', Z', f1, f2, f3, f4, f5⟩ := append_grow (τ := τ) ho hcal hargs hts hok1.drop hτ hs ha hxt hnl r8 hl' hyv (by omega) hnsz r11 (fun w' hw => by
          have := run_loadCells (P := K.P) w' ⟨b, 0, none⟩ (n * sz) (fun i => vs.getD i undef) (fun i hi => by
            rw [addr_add, hw, cell_of hx1, Nat.zero_add]
            simp [Array.getD, show i < vs.size by omega])
          simp only [Builtin.firstCells]
          rw [this]
          congr 1
          apply Array.ext_getElem?
          intro i
          simp only [List.getElem?_toArray, List.getElem?_map]
          by_cases hi : i < n * sz
          · rw [Array.getElem?_extract]
            simp [hi, Array.getD, show i < vs.size by omega, show i < min (n * sz) vs.size by omega]
          · rw [Array.getElem?_extract]
            simp [hi, show ¬ i < min (n * sz) vs.size by omega])
        rw [f1]
        exact ⟨Z', f2, by simpa using f3, f4, f5⟩
  · subst hn0
    have hes : es.take 0 = [] := by simp
    rw [hes] at hok1
    by_cases hcap : 0 + news.length ≤ 0
    · have hnews : news = [] := List.eq_nil_of_length_eq_zero (by omega)
      subst hnews
      obtain ⟨Z1, e1, e2, e3, e4, e5⟩ := hok1.rename hτ
      obtain ⟨a, hrunA, hasz, haone, hav⟩ := hs.cells
      have ha0 : a.toList = [] := by
        have : a.size = 0 := by simpa using hasz
        simpa using this
      have hrun := run_append_stay (P := K.P) (ty := o.type) (base := a0) (n := 0) (w := w) (w' := w) ha.ht hxt ha.hs (hs.len w) (by simp : 0 + ([] : List (List FV)).length ≤ 0) (hrunA w (fun _ _ => rfl)) (by
        cases a0 <;> simp [ha0, storeCells])
      rw [← hyv] at hrun
      rw [append_exec ho hcal hargs hts hrun]
      refine ⟨Z1, e1, by simpa using e5, e2, ?_⟩
      have := VR.rsl0 (Z := Z1) sz τ a0 (by rw [e3]; exact hnm)
      simpa using this
    · obtain ⟨v, w', Z', f1, f2, f3, f4, f5⟩ := append_grow (τ := τ) (es := []) (n := 0) ho hcal hargs hts hok1.drop hτ hs ha hxt rfl (by simp) (by simpa using hl) hyv (by omega) (vs := #[]) (by simp) (fun i d hi => by simp at hi) (fun w' _ => by
        cases a0 with
        | none => simp [Builtin.firstCells]
        | some a1 =>
          have := run_loadCells (P := K.P) w' a1 0 (fun _ => undef) (fun j hj => by omega)
          simpa [Builtin.firstCells] using this)
      rw [f1]
      exact ⟨Z', f2, by simpa using f3, f4, by simpa using f5⟩

/-- append to a slice that is full and only read. -/
theorem OpN_appendNew {c : Call} {st xt : TypeId} {y z : Operand} {sz : Nat} {es news : List (List FV)} {L : Heap} (ho : o.op = .call c) (hcal : c.callee = .builtin .append) (hargs : c.args = #[y, z]) (hts : c.argTypes = #[st, xt])
    (hy : (ρ y = .nilsl ∧ es = []) ∨ ρ y = .slx sz es) (hsrc : SrcN K L sz news (ρ z)) (ha : AppT K.P st sz) (hxt : kdOf K.P xt = 5 ∨ kdOf K.P xt = 3) (h0 : news ≠ []) (hl : es.length + news.length < LB) :
    OpN K o ρ L (fun u => u = τ) (.rsl sz τ 0 (es.length + news.length)) ((τ, .row sz 0 (es ++ news)) :: L) := fun Z w F ρ' hok hf _ hr => by
  have g1 := hr y (by simp [ho, Op.operands, Call.operands, hcal, hargs])
  have g2 := hr z (by simp [ho, Op.operands, Call.operands, hcal, hargs])
  have hs := hsrc Z w F _ hok g2
  have hpos : 0 < news.length := List.length_pos_iff.2 h0
  have hl' : (es ++ news).length < LB := by simpa using hl
  -- what stands there
  have key : ∃ base vs, ρ' y = .slice base es.length es.length ∧ (∀ e, e ∈ es → e.length = sz) ∧ es.length * sz ≤ Array.size vs ∧ (∀ i j, i < es.length → j < sz → VR Z ((es.getD i []).getD j .und) (vs.getD (i * sz + j) undef)) ∧
      (∀ w', (∀ b i, w'.cell? ⟨b, i, none⟩ = w.cell? ⟨b, i, none⟩) → (Builtin.firstCells sz es.length (.slice base es.length es.length)).run K.P w' = .ok (vs.extract 0 (es.length * sz)) w') := by
    rcases hy with ⟨hy, rfl⟩ | hy
    · rw [hy] at g1
      exact ⟨none, #[], VR.nilsl_inv g1, by simp, by simp, fun i j hi => by simp at hi, fun w' _ => by simp [Builtin.firstCells]⟩
    · rw [hy] at g1
      obtain ⟨a, hv, hsl⟩ := VR.slx_inv g1
      by_cases he : es = []
      · subst he
        refine ⟨a, #[], hv, by simp, by simp, fun i j hi => by simp at hi, fun w' _ => ?_⟩
        cases a with
        | none => simp [Builtin.firstCells]
        | some a1 =>
          have := run_loadCells (P := K.P) w' a1 0 (fun _ => undef) (fun j hj => by omega)
          simpa [Builtin.firstCells] using this
      · obtain ⟨b, p, rfl, vs, hcell, hvv⟩ := hsl.cells he
        refine ⟨some ⟨b, p, none⟩, ((List.range (es.length * sz)).map vs).toArray, hv, hsl.len, by simp, fun i j hi hj => ?_, fun w' hw => ?_⟩
        · have := hvv i j hi hj
          have e : ((List.range (es.length * sz)).map vs).toArray.getD (i * sz + j) undef = vs (i * sz + j) := by
            have := row_lt hi hj
            simp [Array.getD, this]
          rw [e]; exact this
        · have := run_loadCells (P := K.P) w' ⟨b, p, none⟩ (es.length * sz) vs (fun j hj => by rw [addr_add, hw]; exact hok.cell _ _ _ (hcell j hj))
          simp only [Builtin.firstCells]
          rw [this]
          congr 1
          apply Array.ext_getElem?
          intro i
          rw [Array.getElem?_extract]
          by_cases hi : i < es.length * sz
          · simp [hi]
          · simp [hi]
  obtain ⟨base, vs, hv, hel, hvs, hval, hold⟩ := key
  obtain ⟨v, w', Z', f1, f2, f3, f4, f5⟩ := append_grow (τ := τ) ho hcal hargs hts hok (hf τ rfl) hs ha hxt rfl hel hl' hv (by omega) hvs hval hold
  rw [f1]
  exact ⟨Z', f2, by simpa using f3, f4, f5⟩

/-- Nothing appended: the slice itself. -/
theorem OpN_appendNone {c : Call} {st xt : TypeId} {y z : Operand} {sz : Nat} {L : Heap} {I : Nat → Prop} (ho : o.op = .call c) (hcal : c.callee = .builtin .append) (hargs : c.args = #[y, z]) (hts : c.argTypes = #[st, xt])
    (hy : ρ y = .nilsl ∨ ∃ es, ρ y = .slx sz es) (hsrc : SrcN K L sz [] (ρ z)) (ha : AppT K.P st sz) (hxt : kdOf K.P xt = 5 ∨ kdOf K.P xt = 3) : OpN K o ρ L I (ρ y) L := fun Z w F ρ' hok hf _ hr => by
  have g1 := hr y (by simp [ho, Op.operands, Call.operands, hcal, hargs])
  have g2 := hr z (by simp [ho, Op.operands, Call.operands, hcal, hargs])
  have hs := hsrc Z w F _ hok g2
  obtain ⟨a, hrunA, hasz, haone, hav⟩ := hs.cells
  have ha0 : a.toList = [] := by
    have : a.size = 0 := by simpa using hasz
    simpa using this
  have key : ∃ base n, ρ' y = .slice base n n := by
    rcases hy with hy | ⟨es, hy⟩
    · rw [hy] at g1
      exact ⟨none, 0, VR.nilsl_inv g1⟩
    · rw [hy] at g1
      obtain ⟨a, hv, _⟩ := VR.slx_inv g1
      exact ⟨a, es.length, hv⟩
  obtain ⟨base, n, hv⟩ := key
  have hrun := run_append_stay (P := K.P) (ty := o.type) (base := base) (n := n) (cap := n) (w := w) (w' := w) ha.ht hxt ha.hs (hs.len w) (by simp) (hrunA w (fun _ _ => rfl)) (by
    cases base <;> simp [ha0, storeCells])
  rw [← hv] at hrun
  rw [append_exec ho hcal hargs hts hrun]
  refine ⟨Z, Ctx.le.refl Z, hok, Same.refl _ _, ?_⟩
  have e : (n + ([] : List (List FV)).length) = n := by simp
  rw [e, ← hv]
  exact g1
end
end Go.Fs

namespace Go.Fs
open Go

theorem getD_mem {α : Type} {l : List α} {i : Nat} {d : α} (h : i < l.length) : l.getD i d ∈ l := by
  rw [List.getD_eq_getElem?_getD, List.getElem?_eq_getElem h]; exact List.getElem_mem h

section
variable {K : Cfg} {o : Oper} {ρ : Operand → FV} {τ : Nat}

theorem SrcN.plain {L : Heap} {sz : Nat} {news : List (List FV)} {x : FV} (h : srcEs x sz = some news) (h1 : ∀ e, e ∈ news → ∀ u, u ∈ e → u.one = true) : SrcN K L sz news x := fun _ _ _ _ hok hv =>
  srcEs_ok h hv hok.cell h1

/-- What an entry that is a row holds. -/
theorem HeapOK.row {Z : Ctx} {w : World} {L : Heap} (hok : HeapOK Z w L) {sz k : Nat} {es : List (List FV)} (hm : (τ, FObj.row sz k es) ∈ L) :
    (Z.nm τ = some none ∧ es = []) ∨ ∃ b vs ty fr N, Z.nm τ = some (some b) ∧ w.heap[b]? = some (.cells vs ty fr) ∧ vs.size = N * sz ∧ es.length ≤ N ∧ (∀ e, e ∈ es → e.length = sz) ∧
      (∀ i j, i < es.length → j < sz → VR Z ((es.getD i []).getD j .und) (vs.getD (i * sz + j) undef)) := by
  have ho := hok.obj _ hm
  rcases ho with ⟨hn, he, _⟩ | ⟨b, hn, vs, ty, fr, N, h1, h2, h3, h4, h5, h6, h7, h8, h9, h10, h11⟩
  · exact Or.inl ⟨hn, he⟩
  · exact Or.inr ⟨b, vs, ty, fr, N, hn, by simpa [blkOf, hn] using h1, h3, h6, h8, h11⟩

theorem SrcN.row {L : Heap} {sz k off n : Nat} {es : List (List FV)} (hm : (τ, FObj.row sz k es) ∈ L) (hb : off + n ≤ es.length) (h1 : ∀ e, e ∈ (es.drop off).take n → ∀ u, u ∈ e → u.one = true) :
    SrcN K L sz ((es.drop off).take n) (.rsl sz τ off n) := fun Z w F v hok hv => by
  have hlen : ((es.drop off).take n).length = n := by simp; omega
  have hrow := hok.row (List.mem_append_left F hm)
  rcases VR.rsl_inv hv with ⟨b, cap, rfl, hnm, hs, hc, hlb⟩ | ⟨a0, rfl, hnm, rfl, rfl⟩
  · rcases hrow with ⟨hn1, _⟩ | ⟨b', vs, ty, fr, N, hn1, hx, hsz, hN, hel, hv⟩
    · rw [hnm] at hn1; cases hn1
    · rw [hnm] at hn1; cases hn1
      have hel' : ∀ e, e ∈ (es.drop off).take n → e.length = sz := fun e he => hel e (List.mem_of_mem_drop (List.mem_of_mem_take he))
      have hfit : off * sz + n * sz ≤ vs.size := by
        rw [hsz, ← Nat.add_mul]; exact Nat.mul_le_mul_right sz (by omega)
      have hget : ∀ i j, i < ((es.drop off).take n).length → j < sz → VR Z ((((es.drop off).take n).getD i []).getD j .und) (((List.range (n * sz)).map fun d => vs.getD (off * sz + d) undef).toArray.getD (i * sz + j) undef) := fun i j hi hj => by
        rw [hlen] at hi
        have := hv (off + i) j (by omega) hj
        have e1 : ((es.drop off).take n).getD i [] = es.getD (off + i) [] := by simp [List.getD, hi, List.getElem?_drop]
        have e2 : off * sz + (i * sz + j) = (off + i) * sz + j := by rw [Nat.add_mul]; omega
        have hlt := row_lt hi hj
        rw [e1]
        simpa [Array.getD, hlt, e2] using this
      refine ⟨fun w' => by simp [Builtin.lenOf, hlen], hel', ((List.range (n * sz)).map fun d => vs.getD (off * sz + d) undef).toArray, fun w' hw => ?_, by simp [hlen], fun u hu => ?_, hget⟩
      · rw [hlen]
        exact run_loadCells (P := K.P) w' ⟨b, off * sz, none⟩ (n * sz) (fun d => vs.getD (off * sz + d) undef) (fun i hi => by
          rw [addr_add, hw, cell_of hx]
          simp [Array.getD, show off * sz + i < vs.size by omega])
      · simp only [List.mem_map, List.mem_range] at hu
        obtain ⟨d, hd, rfl⟩ := hu
        have hz : 0 < sz := by
          rcases Nat.eq_zero_or_pos sz with h | h
          · subst h; simp at hd
          · exact h
        have hi1 : d / sz < n := Nat.div_lt_of_lt_mul (by rw [Nat.mul_comm]; exact hd)
        have hi2 : d % sz < sz := Nat.mod_lt _ hz
        have := hget (d / sz) (d % sz) (by rw [hlen]; exact hi1) hi2
        rw [Nat.div_add_mod' d sz] at this
        have hmem := getD_mem (d := ([] : List FV)) (by rw [hlen]; exact hi1 : d / sz < ((es.drop off).take n).length)
        have hl2 := hel' _ hmem
        have h3 := oneOf this (h1 _ hmem _ (getD_mem (by omega)))
        simpa [Array.getD, hd] using h3
  · simp only [List.take_zero]
    refine ⟨fun w' => by simp [Builtin.lenOf], by simp, #[], fun w' hw => ?_, by simp, by simp, fun i j hi => by simp at hi⟩
    cases a0 with
    | none => simp [Builtin.firstCells]
    | some a1 =>
      have := run_loadCells (P := K.P) w' a1 0 (fun _ => undef) (fun j hj => by omega)
      simpa [Builtin.firstCells] using this
end
end Go.Fs
