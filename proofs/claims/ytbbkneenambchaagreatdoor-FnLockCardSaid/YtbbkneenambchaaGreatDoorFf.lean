/- The evaluator is right: operations, calls, steps. The evaluator is right: regions. The evaluator is right: regions, the whole. THE EVALUATOR IS RIGHT: what it says of a call, the machine does. THE EVALUATOR IS RIGHT: functions. Results without names: frozen rows, a call by itself, a table of results. A call by itself, wherever it is made; a table of results. A table of calls that turn what is owned: each entry says what was owned before and after. Functions of the library, in a form that is quickly evaluated. Known functions of the library, as the evaluator meets them. Conditions: none. -/
import Derived.Test.YtbbkneenambchaaGreatDoorFe
import Derived.Test.YtbbkneenambchaaGreatDoorFc
import Derived.Lib.Split
import Derived.Lib.ItoaNum
import Derived.Below
import Derived.Lib.Join

namespace Go.Fs
open Go

/-- The kind of an operation that is not marked. -/
def kind0 (P : Program) (o : Op) : Nat := match o with
  | .load _ _ => 1
  | .lookup _ _ _ _ => 1
  | .convert _ d _ => match P.underlying d with
    | some (.int _) => 0
    | _ => 1
  | .alloc _ => 4
  | .box _ _ => 4
  | .makeSlice _ _ _ => 4
  | .makeMap _ _ => 4
  | .store _ _ _ => 3
  | .mapUpdate _ _ _ _ => 3
  | .call k => match k.callee with
    | .builtin .len => 0
    | .builtin .cap => 0
    | .builtin .min => 0
    | .builtin .max => 0
    | _ => 3
  | _ => 0

def slotsOK (o : Op) : Bool := o.operands.toList.all slotOK

/-- What a call does. -/
def CallN (K : Cfg) (f : FuncId) (args : List FV) (L : Heap) (c c' : Nat) (x : FV) (L' : Heap) : Prop :=
  Ent K.P f ∧ ∀ (Z : Ctx) (w : World) (F : Heap) (vs : Array Value), VRs Z args vs → HeapOK Z w (L ++ F) → Free (Rng c c') Z → GOK K Z →
    Calls K.P f vs w fun e w' => ∃ v Z', e = .returned v ∧ Ctx.le Z Z' ∧ HeapOK Z' w' (L' ++ F) ∧ Same (Rng c c') Z Z' ∧ VR Z' x v

/-- A function that makes calls makes them right. -/
def CallOK (K : Cfg) (call : CallT) : Prop := ∀ f args H c x H' c', call f args H c = .ok x H' c' → c ≤ c' ∧ CallN K f args (toL H) c c' x (toL H')

section
variable {K : Cfg} {o : Oper} {v : Vm} {x : FV} {H' : HT} {c' : Nat} {call : CallT}

theorem VRs.app {Z : Ctx} {as bs : List FV} {us vs : Array Value} (h1 : VRs Z as us) (h2 : VRs Z bs vs) : VRs Z (as ++ bs) (us ++ vs) := by
  refine ⟨by simp [h1.len, h2.len], fun i hi => ?_⟩
  simp at hi
  by_cases hi1 : i < as.length
  · have := h1.get i hi1
    have e1 : (as ++ bs).getD i .und = as.getD i .und := by simp [List.getD, List.getElem?_append_left hi1]
    have e2 : (us ++ vs).getD i undef = us.getD i undef := by
      simp only [Array.getD_eq_getD_getElem?]
      rw [Array.getElem?_append_left (by rw [h1.len]; exact hi1)]
    rw [e1, e2]; exact this
  · have := h2.get (i - as.length) (by omega)
    have e1 : (as ++ bs).getD i .und = bs.getD (i - as.length) .und := by simp [List.getD, List.getElem?_append_right (by omega : as.length ≤ i)]
    have e2 : (us ++ vs).getD i undef = vs.getD (i - as.length) undef := by
      simp only [Array.getD_eq_getD_getElem?]
      rw [Array.getElem?_append_right (by rw [h1.len]; omega), h1.len]
    rw [e1, e2]; exact this

theorem OpN_call {k : Call} {fo : Operand} {f : FuncId} {args : List FV} {ρ : Operand → FV} {L L' : Heap} {c : Nat} (ho : o.op = .call k) (hc : k.callee = .value fo)
    (hf : (∃ caps, ρ fo = .fn f caps ∧ args = k.args.toList.map ρ ++ caps) ∨ (∃ ps, ρ fo = .mfn f ps ∧ args = ps ++ k.args.toList.map ρ)) (h : CallN K f args L c c' x L') : OpN K o ρ L (Rng c c') x L' := fun Z w F ρ' hok hfr hg hr => by
  obtain ⟨⟨fn, hfn, hname, hbody⟩, hcall⟩ := h
  have g1 := hr fo (by simp [ho, Op.operands, Call.operands, hc])
  have gas : VRs Z (k.args.toList.map ρ) (k.args.map ρ') := by
    refine ⟨by simp, fun i hi => ?_⟩
    have hi2 : i < k.args.size := by simpa using hi
    have := hr k.args[i] (by simp [ho, Op.operands, Call.operands, hc])
    simpa [Array.getD, hi2, List.getD] using this
  have hname' : ¬ fn.name = "runtime.NumGoroutine" := by simpa using hname
  have hbody' : ¬ fn.body = none := fun e => by rw [e] at hbody; simp at hbody
  have key : ∃ vs, (execOp ρ' o).run K.P w = .ok (.enter f vs) w ∧ VRs Z args vs := by
    rcases hf with ⟨caps, e1, rfl⟩ | ⟨ps, e1, rfl⟩
    · rw [e1] at g1
      generalize hu : ρ' fo = u at g1
      cases g1 with
      | fn f cs vs hl hvs =>
        refine ⟨k.args.map ρ' ++ vs, ?_, gas.app ⟨hl, hvs⟩⟩
        simp only [execOp, ho, resolve, hc, hu, Deferred.ofValue]
        simp [invoke, callFunc, hfn, hname', hbody']
    · rw [e1] at g1
      generalize hu : ρ' fo = u at g1
      cases g1 with
      | mfn f cs vs hl hvs =>
        refine ⟨vs ++ k.args.map ρ', ?_, VRs.app ⟨hl, hvs⟩ gas⟩
        simp only [execOp, ho, resolve, hc, hu, Deferred.ofValue]
        simp [invoke, callFunc, hfn, hname', hbody']
  obtain ⟨vs, hrun, hvs⟩ := key
  rw [hrun]
  exact (hcall Z w F vs hvs hok hfr hg).mono fun e w' ⟨u, Z', h1, h2, h3, h4, h5⟩ => ⟨u, h1, Z', h2, h3, h4, h5⟩

theorem callV_ok (hcall : CallOK K call) {k : Call} {fo : Operand} (ho : o.op = .call k) (hc : k.callee = .value fo) (s : slotOK fo = true ∧ ∀ y, y ∈ k.args.toList → slotOK y = true)
    (h : callV (K.ev v fo) (evL K v k.args.toList) call v = .ok x H' c') : Res K o v 3 x H' c' := by
  rw [kev s.1, evL_eq _ s.2] at h
  cases hf : evN K (envOf v.E) fo <;> rw [hf] at h <;> first | exact nomatch (show Out.no = Out.ok x H' c' from h) | skip
  · rename_i f caps
    have h : call f (app (k.args.toList.map (evN K (envOf v.E))) caps) v.H v.c = .ok x H' c' := h
    rw [app_eq] at h
    obtain ⟨h1, h2⟩ := hcall _ _ _ _ _ _ _ h
    exact .any (OpN_call ho hc (Or.inl ⟨caps, hf, rfl⟩) h2) (List.Perm.refl _) h1
  · rename_i f ps
    have h : call f (app ps (k.args.toList.map (evN K (envOf v.E)))) v.H v.c = .ok x H' c' := h
    rw [app_eq] at h
    obtain ⟨h1, h2⟩ := hcall _ _ _ _ _ _ _ h
    exact .any (OpN_call ho hc (Or.inr ⟨ps, hf, rfl⟩) h2) (List.Perm.refl _) h1

theorem no_ok {α : Prop} (h : Out.no = Out.ok x H' c') : α := nomatch h

theorem cCall_ok (hcall : CallOK K call) (hv : VmOK v) {k : Call} (ho : o.op = .call k) (s : slotsOK o.op = true) (h : (cCall k K).f call v = .ok x H' c') : Res K o v (kind0 K.P o.op) x H' c' := by
  have sl : ∀ y, y ∈ o.op.operands → slotOK y = true := fun y hy => List.all_eq_true.1 s y (by simpa using hy)
  rw [ho]
  unfold cCall at h
  cases hc : k.callee with
  | value fo =>
    simp only [hc] at h
    have hk : kind0 K.P (.call k) = 3 := by simp [kind0, hc]
    rw [hk]
    exact callV_ok hcall ho hc ⟨sl fo (by simp [ho, Op.operands, Call.operands, hc]), fun y hy => sl y (by simp [ho, Op.operands, Call.operands, hc]; exact Or.inr (by simpa using hy))⟩ h
  | invoke a b => simp only [hc] at h; exact no_ok h
  | builtin b =>
    simp only [hc] at h
    have h : (bSel b k.argTypes.toList k.args.toList K).f call v = .ok x H' c' := h
    have sa : ∀ y, y ∈ k.args.toList → slotOK y = true := fun y hy => sl y (by simp [ho, Op.operands, Call.operands, hc]; simpa using hy)
    cases b with
    | len => rw [show kind0 K.P (.call k) = 0 by simp [kind0, hc]]; exact bLen_ok ho hc sa h
    | append => rw [show kind0 K.P (.call k) = 3 by simp [kind0, hc]]; exact bAppend_ok hv ho hc sa h
    | cap => rw [show kind0 K.P (.call k) = 0 by simp [kind0, hc]]; exact bCap_ok ho hc sa h
    | clear => rw [show kind0 K.P (.call k) = 3 by simp [kind0, hc]]; exact bClear_ok ho hc sa h
    | min => rw [show kind0 K.P (.call k) = 0 by simp [kind0, hc]]; exact bMin_ok true ho hc sa h
    | max => rw [show kind0 K.P (.call k) = 0 by simp [kind0, hc]]; exact bMin_ok false ho hc sa h
    | _ => exact no_ok h

/-- EVERY OPERATION. -/
theorem comp_ok (hcall : CallOK K call) (hv : VmOK v) (s : slotsOK o.op = true) (h : (compO o.op K).f call v = .ok x H' c') : Res K o v (kind0 K.P o.op) x H' c' := by
  have sl : ∀ y, y ∈ o.op.operands → slotOK y = true := fun y hy => List.all_eq_true.1 s y (by simpa using hy)
  cases ho : o.op with
  | move y => rw [ho] at h; exact cMove_ok (Or.inl ho) (sl y (by simp [ho, Op.operands])) h
  | assign y => rw [ho] at h; exact cMove_ok (Or.inr ho) (sl y (by simp [ho, Op.operands])) h
  | pick q a b => rw [ho] at h; exact cPick_ok ho ⟨sl q (by simp [ho, Op.operands]), sl a (by simp [ho, Op.operands]), sl b (by simp [ho, Op.operands])⟩ h
  | alloc t => rw [ho] at h; exact cAlloc_ok hv ho h
  | box t y => rw [ho] at h; exact cBox_ok hv ho (sl y (by simp [ho, Op.operands])) h
  | build t ps => rw [ho] at h; exact cBuild_ok ho (fun p hp => sl p.2 (by simp only [ho, Op.operands]; exact mem_parts_operands hp)) h
  | buildSlice t n ps => rw [ho] at h; exact cBuildSlice_ok ho (fun p hp => sl p.2 (by simp only [ho, Op.operands]; exact mem_parts_operands hp)) h
  | load t y => rw [ho] at h; exact cLoad_ok ho (sl y (by simp [ho, Op.operands])) h
  | store t y z => rw [ho] at h; exact cStore_ok ho ⟨sl y (by simp [ho, Op.operands]), sl z (by simp [ho, Op.operands])⟩ h
  | nilCheck y => rw [ho] at h; exact cNilCheck_ok ho (sl y (by simp [ho, Op.operands])) h
  | binOp p t y z u => rw [ho] at h; exact cBin_ok ho ⟨sl y (by simp [ho, Op.operands]), sl z (by simp [ho, Op.operands])⟩ h
  | unOp p t y => rw [ho] at h; exact cUn_ok ho (sl y (by simp [ho, Op.operands])) h
  | convert s d y =>
    rw [ho] at h
    rcases cConvert_inv ho (sl y (by simp [ho, Op.operands])) h with ⟨k', hd, hr⟩ | ⟨hd, hr⟩
    · rw [show kind0 K.P (.convert s d y) = 0 by simp [kind0, hd]]; exact hr
    · rw [show kind0 K.P (.convert s d y) = 1 by simp [kind0, hd]]; exact hr
  | makeFunc fn a b => rw [ho] at h; exact cMakeFunc_ok ho (fun y hy => sl y (by simpa [ho, Op.operands] using hy)) h
  | makeMap t r => rw [ho] at h; exact cMakeMap_ok hv ho h
  | makeSlice t y z => rw [ho] at h; exact cMakeSlice_ok hv ho ⟨sl y (by simp [ho, Op.operands]), sl z (by simp [ho, Op.operands])⟩ h
  | slice t y l hh m =>
    rw [ho] at h
    obtain ⟨o1, o2, o3, o4⟩ := slice_ops ho
    exact cSlice_ok ho ⟨sl y o1, fun z hz => sl z (o2 z hz), fun z hz => sl z (o3 z hz), fun z hz => sl z (o4 z hz)⟩ h
  | fieldAddr t y f => rw [ho] at h; exact cFieldAddr_ok ho (sl y (by simp [ho, Op.operands])) h
  | indexAddr t y z => rw [ho] at h; exact cIndexAddr_ok ho ⟨sl y (by simp [ho, Op.operands]), sl z (by simp [ho, Op.operands])⟩ h
  | index t y z => rw [ho] at h; exact cIndex_ok ho ⟨sl y (by simp [ho, Op.operands]), sl z (by simp [ho, Op.operands])⟩ h
  | lookup t y z b => rw [ho] at h; exact cLookup_ok ho ⟨sl y (by simp [ho, Op.operands]), sl z (by simp [ho, Op.operands])⟩ h
  | mapUpdate t y z u => rw [ho] at h; exact cMapUpdate_ok ho ⟨sl y (by simp [ho, Op.operands]), sl z (by simp [ho, Op.operands]), sl u (by simp [ho, Op.operands])⟩ h
  | extract y i => rw [ho] at h; exact cExtract_ok ho (sl y (by simp [ho, Op.operands])) h
  | call k => rw [← ho]; rw [ho] at h; exact cCall_ok hcall hv ho (by rw [ho] at s ⊢; exact s) h
  | _ => rw [ho] at h; exact no_ok h
end
end Go.Fs

namespace Go.Fs
open Go

theorem same1_ok {ih : FV → FV → Bool} (hih : ∀ x y, ih x y = true → x = y) : ∀ (a b : List FV), same1 ih a b = true → a = b
  | [], [], _ => rfl
  | [], _ :: _, h => nomatch (show false = true from h)
  | _ :: _, [], h => nomatch (show false = true from h)
  | x :: a, y :: b, h => by
    have h : @Bool.rec (fun _ => Bool) false (same1 ih a b) (ih x y) = true := h
    cases hxy : ih x y with
    | false => rw [hxy] at h; exact nomatch (show false = true from h)
    | true => rw [hxy] at h; rw [hih x y hxy, same1_ok hih a b h]

theorem same2L_ok {ih : FV → FV → Bool} (hih : ∀ x y, ih x y = true → x = y) : ∀ (a b : List (List FV)), same2L ih a b = true → a = b
  | [], [], _ => rfl
  | [], _ :: _, h => nomatch (show false = true from h)
  | _ :: _, [], h => nomatch (show false = true from h)
  | x :: a, y :: b, h => by
    have h : @Bool.rec (fun _ => Bool) false (same2L ih a b) (same1 ih x y) = true := h
    cases hxy : same1 ih x y with
    | false => rw [hxy] at h; exact nomatch (show false = true from h)
    | true => rw [hxy] at h; rw [same1_ok hih x y hxy, same2L_ok hih a b h]

theorem sameS_ok {ih : FV → FV → Bool} (hih : ∀ x y, ih x y = true → x = y) (x y : FV) (h : sameS ih x y = true) : x = y := by
  have nb : ∀ {a b : Nat}, Nat.beq a b = true → a = b := fun h => Nat.eq_of_beq_eq_true h
  cases x <;> first | exact nomatch (show false = true from h) | skip
  all_goals cases y <;> first | exact nomatch (show false = true from h) | skip
  · rename_i a b; cases a <;> cases b <;> first | rfl | exact nomatch (show false = true from h)
  · rename_i k a l b
    obtain ⟨h1, h2⟩ := andB_iff.1 (show andB (kEq k l) (ieq a b) = true from h)
    rw [kEq_inv h1]
    rw [ieq_eq] at h2
    rw [of_decide_eq_true h2]
  · rename_i a b
    have h : strEq a b = true := h
    rw [strEq_eq] at h
    rw [of_decide_eq_true h]
  · rw [same1_ok hih _ _ h]
  · rename_i k es m fs
    obtain ⟨h1, h2⟩ := andB_iff.1 (show andB (Nat.beq k m) (same2L ih es fs) = true from h)
    rw [nb h1, same2L_ok hih _ _ h2]
  · rename_i k es m fs
    obtain ⟨h1, h2⟩ := andB_iff.1 (show andB (Nat.beq k m) (same2L ih es fs) = true from h)
    rw [nb h1, same2L_ok hih _ _ h2]
  · rfl
  · rename_i a b c d e f g i
    obtain ⟨h1, h2⟩ := andB_iff.1 (show andB (Nat.beq a e) (andB (Nat.beq b f) (andB (Nat.beq c g) (Nat.beq d i))) = true from h)
    obtain ⟨h2, h3⟩ := andB_iff.1 h2
    obtain ⟨h3, h4⟩ := andB_iff.1 h3
    rw [nb h1, nb h2, nb h3, nb h4]
  · rename_i a b c d e f g i
    obtain ⟨h1, h2⟩ := andB_iff.1 (show andB (Nat.beq a e) (andB (Nat.beq b f) (andB (Nat.beq c g) (Nat.beq d i))) = true from h)
    obtain ⟨h2, h3⟩ := andB_iff.1 h2
    obtain ⟨h3, h4⟩ := andB_iff.1 h3
    rw [nb h1, nb h2, nb h3, nb h4]
  · rename_i a b; rw [nb (show Nat.beq a b = true from h)]
  · rename_i f cs g ds
    obtain ⟨h1, h2⟩ := andB_iff.1 (show andB (Nat.beq f g) (same1 ih cs ds) = true from h)
    rw [nb h1, same1_ok hih _ _ h2]
  · rename_i f cs g ds
    obtain ⟨h1, h2⟩ := andB_iff.1 (show andB (Nat.beq f g) (same1 ih cs ds) = true from h)
    rw [nb h1, same1_ok hih _ _ h2]
  · rfl
  · rw [same1_ok hih _ _ h]
  · rw [same1_ok hih _ _ h]

theorem sameV_ok : ∀ (n : Nat) (x y : FV), sameV n x y = true → x = y
  | 0, _, _, h => nomatch (show false = true from h)
  | n + 1, x, y, h => sameS_ok (sameV_ok n) x y h

section
variable {K : Cfg} {call : CallT} {ops : Array Oper} {n : Nat}

/-- What must be right about an operation's text. -/
def okOp (n : Nat) (o : Oper) : Bool := dstOK n o.dst && slotsOK o.op
def okOps (n : Nat) (ops : Array Oper) : Bool := Nat.ble n 256 && ops.toList.all (okOp n)

theorem okOps_get (h : okOps n ops = true) {i : Nat} {o : Oper} (ho : ops[i]? = some o) : dstOK n o.dst = true ∧ slotsOK o.op = true ∧ n ≤ 256 := by
  unfold okOps at h
  simp only [Bool.and_eq_true, List.all_eq_true] at h
  have h2 := h.2 o (by
    have := List.mem_of_getElem? (show ops.toList[i]? = some o by simpa using ho)
    exact this)
  unfold okOp at h2
  simp only [Bool.and_eq_true] at h2
  exact ⟨h2.1, h2.2, Nat.le_of_ble_eq_true h.1⟩

theorem envOf_put {d : Nat} (hd : d < 256) (x : FV) (E : ET) : envOf (putS d x E) = updF (envOf E) d x := by
  funext i
  show (if i < 256 then lkS (putS d x E) i else .und) = if i = d then x else (if i < 256 then lkS E i else .und)
  by_cases hi : i < 256
  · rw [if_pos hi, lkS_put hi hd]
    by_cases e : i = d
    · rw [if_pos e, if_pos e]
    · rw [if_neg e, if_neg e, if_pos hi]
  · rw [if_neg hi, if_neg hi, if_neg (by omega)]

theorem putF_ok {d : Option Nat} (hd : dstOK n d = true) (hn : n ≤ 256) (x : FV) (E : ET) : envOf ((putF d).f x E) = updO (envOf E) d x := by
  cases d with
  | none => rfl
  | some d =>
    have h : d < n := Nat.le_of_ble_eq_true (show Nat.ble (d + 1) n = true from hd)
    exact envOf_put (by omega) x E

theorem gdF_ok (hok : okOps n ops = true) {o : Oper} {E : ET} {b : Bool} (h : (gdF ops o.guard).f E = some b) : gdN ops o (envOf E) = some b := by
  unfold gdF at h
  unfold gdN
  cases hg : o.guard with
  | none => rw [hg] at h; exact h
  | some g =>
    obtain ⟨j, want⟩ := g
    rw [hg] at h
    simp only at h ⊢
    cases hj : ops[j]? with
    | none => rw [hj] at h; exact nomatch (show none = some b from h)
    | some p =>
      rw [hj] at h
      simp only [Option.bind_some] at h ⊢
      cases hd : p.dst with
      | none => rw [hd] at h; exact nomatch (show none = some b from h)
      | some d =>
        rw [hd] at h
        have h : gd1 want (lkS E d) = some b := h
        obtain ⟨h1, _, h3⟩ := okOps_get hok hj
        rw [hd] at h1
        have hdn : d < n := Nat.le_of_ble_eq_true (show Nat.ble (d + 1) n = true from h1)
        have he : envOf E d = lkS E d := if_pos (Nat.lt_of_lt_of_le hdn h3)
        simp only [he]
        cases hx : lkS E d <;> rw [hx] at h <;> first | exact nomatch (show none = some b from h) | skip
        · rename_i c
          have h : some (@Bool.rec (fun _ => Bool) (!want) want c) = some b := h
          cases h
          cases c <;> cases want <;> rfl
        · rename_i u
          have h : notB u = some b := h
          cases u <;> first | exact nomatch (show none = some b from h) | exact h

/-- One step of a region. -/
theorem stepO_ok (hcall : CallOK K call) (hok : okOps n ops = true) {i : Nat} {o : Oper} (ho : ops[i]? = some o) {E E' : ET} {H H' : HT} {c c' : Nat} (h : stepO K call ops o E H c = .ok E' H' c') :
    ∃ x, envOf E' = updO (envOf E) o.dst x ∧ dstOK n o.dst = true ∧ c ≤ c' ∧
      ((gdN ops o (envOf E) = some true ∧ (gdF ops o.guard).f E = some true ∧ (compO o.op K).f call ⟨c, Nat.succ c, c, E, H⟩ = .ok x H' c' ∧ Res K o ⟨c, Nat.succ c, c, E, H⟩ (kind0 K.P o.op) x H' c') ∨
       (gdN ops o (envOf E) = some false ∧ (gdF ops o.guard).f E = some false ∧ x = .val undef ∧ H' = H ∧ c' = c)) := by
  obtain ⟨h1, h2, h3⟩ := okOps_get hok ho
  unfold stepO stepG at h
  cases hg : (gdF ops o.guard).f E with
  | none => rw [hg] at h; exact nomatch (show RO.no = RO.ok E' H' c' from h)
  | some b =>
    have hgn := gdF_ok hok hg
    rw [hg] at h
    cases b with
    | false =>
      have h : RO.ok ((putF o.dst).f (.val undef) E) H c = .ok E' H' c' := h
      cases h
      exact ⟨.val undef, putF_ok h1 h3 _ _, h1, Nat.le_refl _, Or.inr ⟨hgn, rfl, rfl, rfl, rfl⟩⟩
    | true =>
      have h : putR (putF o.dst) E ((compO o.op K).f call ⟨c, Nat.succ c, c, E, H⟩) = .ok E' H' c' := h
      cases hr : (compO o.op K).f call ⟨c, Nat.succ c, c, E, H⟩ with
      | no => rw [hr] at h; exact nomatch (show RO.no = RO.ok E' H' c' from h)
      | ok x H1 c1 =>
        rw [hr] at h
        have h : RO.ok ((putF o.dst).f x E) H1 c1 = .ok E' H' c' := h
        cases h
        have hres := comp_ok hcall (v := ⟨c, Nat.succ c, c, E, H⟩) ⟨rfl, rfl⟩ h2 hr
        exact ⟨x, putF_ok h1 h3 _ _, h1, hres.le, Or.inl ⟨hgn, rfl, rfl, hres⟩⟩

/-- What operations of a list do, one after the other, with their marks. -/
inductive Ran (K : Cfg) (call : CallT) (ops : Array Oper) : List (Nat × Nat) → Seen → ET → HT → Nat → ET → HT → Nat → Prop
  | nil (s : Seen) (E : ET) (H : HT) (c : Nat) : Ran K call ops [] s E H c E H c
  | plain {i : Nat} {o : Oper} {l : List (Nat × Nat)} {s : Seen} {E E1 E2 : ET} {H H1 H2 : HT} {c c1 c2 : Nat} (ho : ops[i]? = some o) (h : stepO K call ops o E H c = .ok E1 H1 c1) (t : Ran K call ops l s E1 H1 c1 E2 H2 c2) :
      Ran K call ops ((i, 0) :: l) s E H c E2 H2 c2
  | loc {i : Nat} {o : Oper} {l : List (Nat × Nat)} {s : Seen} {fp : List Nat} {E E1 E2 : ET} {H H1 H2 : HT} {c c1 c2 : Nat} (ho : ops[i]? = some o) (hf : fpO o.op K E = some fp) (ha : apartN fp s.ns = true) (h : stepO K call ops o E H c = .ok E1 H1 c1)
      (t : Ran K call ops l ⟨c :: app fp s.ns, s.rs⟩ E1 H1 c1 E2 H2 c2) : Ran K call ops ((i, 2) :: l) s E H c E2 H2 c2
  | rem {i : Nat} {o : Oper} {m : Rem} {l : List (Nat × Nat)} {s : Seen} {E E1 E2 : ET} {H H1 H2 : HT} {c c1 c2 : Nat} (ho : ops[i]? = some o) (h : stepO K call ops o E H c = .ok E1 H1 c1) (hm : remO o.op K E o.dst E1 = some m)
      (t : Ran K call ops l ⟨s.ns, m :: s.rs⟩ E1 H1 c1 E2 H2 c2) : Ran K call ops ((i, 3) :: l) s E H c E2 H2 c2
  | remNo {i : Nat} {o : Oper} {l : List (Nat × Nat)} {s : Seen} {E E1 E2 : ET} {H H1 H2 : HT} {c c1 c2 : Nat} (ho : ops[i]? = some o) (h : stepO K call ops o E H c = .ok E1 H1 c1) (hg : (gdF ops o.guard).f E ≠ some true)
      (t : Ran K call ops l s E1 H1 c1 E2 H2 c2) : Ran K call ops ((i, 3) :: l) s E H c E2 H2 c2
  | still {i : Nat} {o : Oper} {l : List (Nat × Nat)} {s : Seen} {E E1 E2 : ET} {H H1 H2 : HT} {c c1 c2 : Nat} (ho : ops[i]? = some o) (h : stepO K call ops o E H c = .ok E1 H1 c1) (hs : stillA K H1 s.rs = true)
      (t : Ran K call ops l s E1 H1 c1 E2 H2 c2) : Ran K call ops ((i, 4) :: l) s E H c E2 H2 c2

theorem andThen_inv {r : RO} {k : ET → HT → Nat → RO} {E' : ET} {H' : HT} {c' : Nat} (h : andThen r k = .ok E' H' c') : ∃ E H c, r = .ok E H c ∧ k E H c = .ok E' H' c' := by
  cases r with
  | no => exact nomatch (show RO.no = RO.ok E' H' c' from h)
  | ok E H c => exact ⟨E, H, c, rfl, h⟩

theorem opsX_ran : ∀ (l : List (Nat × Nat)) (s : Seen) (E : ET) (H : HT) (c : Nat) (E' : ET) (H' : HT) (c' : Nat), opsX K call ops l s E H c = .ok E' H' c' → Ran K call ops l s E H c E' H' c'
  | [], s, E, H, c, E', H', c', h => by
    have h : RO.ok E H c = .ok E' H' c' := h
    cases h
    exact .nil _ _ _ _
  | (i, f) :: l, s, E, H, c, E', H', c', h => by
    have h : (match ops[i]? with
      | none => RO.no
      | some o => opX K call ops o f s (opsX K call ops l) E H c) = .ok E' H' c' := h
    cases ho : ops[i]? with
    | none => rw [ho] at h; exact nomatch h
    | some o =>
      rw [ho] at h
      have h : opX K call ops o f s (opsX K call ops l) E H c = .ok E' H' c' := h
      match f with
      | 0 =>
        obtain ⟨E1, H1, c1, h1, h2⟩ := andThen_inv (show andThen (stepO K call ops o E H c) (opsX K call ops l s) = _ from h)
        exact .plain ho h1 (opsX_ran l _ _ _ _ _ _ _ h2)
      | 1 => exact nomatch (show RO.no = RO.ok E' H' c' from h)
      | 2 =>
        have h : (match fpO o.op K E with
          | none => RO.no
          | some fp => @Bool.rec (fun _ => RO) RO.no (andThen (stepO K call ops o E H c) (opsX K call ops l ⟨c :: app fp s.ns, s.rs⟩)) (apartN fp s.ns)) = .ok E' H' c' := h
        cases hf : fpO o.op K E with
        | none => rw [hf] at h; exact nomatch h
        | some fp =>
          rw [hf] at h
          cases ha : apartN fp s.ns with
          | false => simp only [ha] at h; exact nomatch h
          | true =>
            simp only [ha] at h
            obtain ⟨E1, H1, c1, h1, h2⟩ := andThen_inv h
            exact .loc ho hf ha h1 (opsX_ran l _ _ _ _ _ _ _ h2)
      | 3 =>
        obtain ⟨E1, H1, c1, h1, h2⟩ := andThen_inv (show andThen (stepO K call ops o E H c) (fun E1 H1 c1 => @Bool.rec (fun _ => RO) (opsX K call ops l s E1 H1 c1) (@Option.rec _ (fun _ => RO) RO.no (fun m => opsX K call ops l ⟨s.ns, m :: s.rs⟩ E1 H1 c1) (remO o.op K E o.dst E1)) (wantsF ((gdF ops o.guard).f E))) = _ from h)
        cases hw : wantsF ((gdF ops o.guard).f E) with
        | false =>
          rw [hw] at h2
          refine .remNo ho h1 (fun e => ?_) (opsX_ran l _ _ _ _ _ _ _ h2)
          rw [e] at hw
          exact nomatch (show true = false from hw)
        | true =>
          rw [hw] at h2
          cases hm : remO o.op K E o.dst E1 with
          | none => rw [hm] at h2; exact nomatch (show RO.no = RO.ok E' H' c' from h2)
          | some m => rw [hm] at h2; exact .rem ho h1 hm (opsX_ran l _ _ _ _ _ _ _ h2)
      | 4 =>
        obtain ⟨E1, H1, c1, h1, h2⟩ := andThen_inv (show andThen (stepO K call ops o E H c) (fun E1 H1 c1 => @Bool.rec (fun _ => RO) RO.no (opsX K call ops l s E1 H1 c1) (stillA K H1 s.rs)) = _ from h)
        cases hs : stillA K H1 s.rs with
        | false => rw [hs] at h2; exact nomatch (show RO.no = RO.ok E' H' c' from h2)
        | true => rw [hs] at h2; exact .still ho h1 hs (opsX_ran l _ _ _ _ _ _ _ h2)
      | f + 5 => exact nomatch (show RO.no = RO.ok E' H' c' from h)

/-- All operations in the order of the text, unmarked. -/
def textOrd (k m : Nat) : List (Nat × Nat) := (List.range' k m).map fun i => (i, 0)

theorem opsR_ran : ∀ (l : List Oper) (k : Nat) (s : Seen) (E : ET) (H : HT) (c : Nat) (E' : ET) (H' : HT) (c' : Nat), (∀ j, j < l.length → ops[k + j]? = l[j]?) → opsR K call ops l E H c = .ok E' H' c' → Ran K call ops (textOrd k l.length) s E H c E' H' c'
  | [], k, s, E, H, c, E', H', c', _, h => by
    have h : RO.ok E H c = .ok E' H' c' := h
    cases h
    exact .nil _ _ _ _
  | o :: l, k, s, E, H, c, E', H', c', hl, h => by
    obtain ⟨E1, H1, c1, h1, h2⟩ := andThen_inv (show andThen (stepO K call ops o E H c) (opsR K call ops l) = _ from h)
    have h0 := hl 0 (by simp)
    simp at h0
    have e : textOrd k (o :: l).length = (k, 0) :: textOrd (k + 1) l.length := by
      simp [textOrd, List.range'_succ]
    rw [e]
    refine .plain h0 h1 (opsR_ran l (k + 1) s E1 H1 c1 E' H' c' (fun j hj => ?_) h2)
    have := hl (j + 1) (by simpa using hj)
    simpa [Nat.add_assoc, Nat.add_comm 1 j] using this
end
end Go.Fs

namespace Go.Fs
open Go

def kdOp (P : Program) (o : Op) (f : Nat) : Nat := match f with
  | 2 => 5
  | 3 => 6
  | 4 => 7
  | _ => kind0 P o

theorem kind0_le (P : Program) (o : Op) : kind0 P o ≤ 4 := by
  unfold kind0
  repeat' split
  all_goals omega

/-- i comes before j. -/
def Bef : List Nat → Nat → Nat → Prop
  | [], _, _ => False
  | k :: r, j, i => (k = i ∧ j ∈ r) ∨ Bef r j i

theorem Bef.mem : ∀ {r : List Nat} {j i : Nat}, Bef r j i → j ∈ r
  | [], _, _, h => h.elim
  | k :: r, j, i, h => by
    rcases h with ⟨_, h⟩ | h
    · exact List.mem_cons_of_mem _ h
    · exact List.mem_cons_of_mem _ h.mem

theorem Bef.intro : ∀ (p : List Nat) {l : List Nat} {i j : Nat}, j ∈ l → Bef (p ++ i :: l) j i
  | [], _, _, _, h => Or.inl ⟨rfl, h⟩
  | _ :: p, _, _, _, h => Or.inr (Bef.intro p h)

theorem Bef.pre : ∀ (p : List Nat) {l : List Nat} {i j : Nat}, (p ++ j :: l).Nodup → Bef (p ++ j :: l) j i → i ∈ p
  | [], l, i, j, hn, h => by
    have hn := List.nodup_cons.1 hn
    rcases h with ⟨rfl, h⟩ | h
    · exact absurd h hn.1
    · exact absurd h.mem hn.1
  | k :: p, l, i, j, hn, h => by
    rcases h with ⟨rfl, _⟩ | h
    · exact List.mem_cons_self
    · exact List.mem_cons_of_mem _ (Bef.pre p (List.nodup_cons.1 hn).2 h)

def BOK (B : Nat → Nat → Prop) : List Nat → Prop
  | [] => True
  | i :: l => (∀ j, j ∈ l → B j i) ∧ (∀ i', B i i' → i' ∉ i :: l) ∧ BOK B l

theorem BOK.of (π : List Nat) (hn : π.Nodup) : ∀ (l p : List Nat), π = p ++ l → BOK (Bef π) l
  | [], _, _ => trivial
  | i :: l, p, h => by
    subst h
    refine ⟨fun j hj => Bef.intro p hj, fun i' hB hm => ?_, BOK.of _ hn l (p ++ [i]) (by simp)⟩
    exact (List.nodup_append.1 hn).2.2 i' (Bef.pre p hn hB) i' hm rfl

section
variable {K : Cfg} {call : CallT} {ops : Array Oper} {n : Nat}

/-- What is said of operations from here to the region's end. -/
def Concl (K : Cfg) (n : Nat) (ops : Array Oper) (l : List Nat) (s : Seen) (E : ET) (H : HT) (c : Nat) (E2 : ET) (H2 : HT) (c2 : Nat) (G0 : Gh) : Prop :=
  ∃ G : Gh, G.kd = G0.kd ∧ G.B = G0.B ∧ (∀ i, i ∉ l → G.I i = G0.I i ∧ G.W i = G0.W i ∧ G.R i = G0.R i ∧ G.X i = G0.X i) ∧ c ≤ c2 ∧ (∀ i, i ∈ l → ∀ t, G.I i t → Rng c c2 t) ∧
    (∀ i j, i ∈ l → j ∈ l → i ≠ j → ∀ t, G.I i t → ¬ G.I j t) ∧ (∀ j, j ∈ l → G.kd j = 5 → ∀ t, G.W j t → t ∉ s.ns) ∧ Sep G l ∧
    ∀ C, PermC C → C (envOf E2) (toL H2) → ∀ L, L.Perm (toL H) → WC K n ops G l (envOf E) L C

def Gh.set (G : Gh) (i : Nat) (I W : Nat → Prop) (R : Operand → FV) (X : FV → Prop) : Gh :=
  ⟨fun k => if k = i then I else G.I k, fun k => if k = i then W else G.W k, G.kd, fun k => if k = i then R else G.R k, fun k => if k = i then X else G.X k, G.B⟩

theorem Concl.cons {i : Nat} {o : Oper} {l : List Nat} {s s' : Seen} {E E1 E2 : ET} {H H1 H2 : HT} {c c1 c2 : Nat} {x : FV} {G0 : Gh} {W0 : Nat → Prop} {R0 : Operand → FV} {X0 : FV → Prop} (ho : ops[i]? = some o) (hni : i ∉ l)
    (hE : envOf E1 = updO (envOf E) o.dst x) (hc : c ≤ c1) (hsub : ∀ t, t ∈ s.ns → t ∈ s'.ns) (h5 : G0.kd i = 5 → (∀ t, W0 t → t ∉ s.ns ∧ t ∈ s'.ns) ∧ ∀ t, Rng c c1 t → t ∈ s'.ns) (hB : ∀ j, j ∈ l → G0.B j i)
    (hstp : ∀ G : Gh, G.kd = G0.kd → G.B = G0.B → G.I i = Rng c c1 → G.W i = W0 → G.R i = R0 → G.X i = X0 → (∀ k, k ∉ i :: l → G.I k = G0.I k ∧ G.W k = G0.W k ∧ G.R k = G0.R k ∧ G.X k = G0.X k) →
      ∃ L1, Stp K n ops G i o (envOf E) (toL H) x L1 ∧ L1.Perm (toL H1))
    (ih : Concl K n ops l s' E1 H1 c1 E2 H2 c2 (G0.set i (Rng c c1) W0 R0 X0)) : Concl K n ops (i :: l) s E H c E2 H2 c2 G0 := by
  obtain ⟨G, g1, g2, g3, g4, g5, g6, g7, g8, g9⟩ := ih
  obtain ⟨e1, e2, e3, e4⟩ := g3 i hni
  have e1 : G.I i = Rng c c1 := by rw [e1]; simp [Gh.set]
  have e2 : G.W i = W0 := by rw [e2]; simp [Gh.set]
  have e3 : G.R i = R0 := by rw [e3]; simp [Gh.set]
  have e4 : G.X i = X0 := by rw [e4]; simp [Gh.set]
  have hoff : ∀ k, k ∉ i :: l → G.I k = G0.I k ∧ G.W k = G0.W k ∧ G.R k = G0.R k ∧ G.X k = G0.X k := fun k hk => by
    have hki : k ≠ i := fun e => hk (by subst e; exact List.mem_cons_self)
    obtain ⟨f1, f2, f3, f4⟩ := g3 k (fun h => hk (List.mem_cons_of_mem _ h))
    simp only [Gh.set, if_neg hki] at f1 f2 f3 f4
    exact ⟨f1, f2, f3, f4⟩
  refine ⟨G, g1, g2, hoff, Nat.le_trans hc g4, fun k hk t ht => ?_, fun k j hk hj hne t ht ht' => ?_, fun j hj hkd t ht => ?_, ⟨fun hkd j hj hkj t ht hor => ?_, fun hkd j hj hkj => ?_, g8⟩, fun C hC hfin L hL => ?_⟩
  · rcases List.mem_cons.1 hk with rfl | hk
    · rw [e1] at ht; exact ⟨ht.1, Nat.lt_of_lt_of_le ht.2 g4⟩
    · have := g5 k hk t ht; exact ⟨Nat.le_trans hc this.1, this.2⟩
  · rcases List.mem_cons.1 hk with ek | hk'
    · rcases List.mem_cons.1 hj with ej | hj'
      · exact hne (ek.trans ej.symm)
      · rw [ek, e1] at ht
        exact Nat.lt_irrefl _ (Nat.lt_of_lt_of_le ht.2 (g5 j hj' t ht').1)
    · rcases List.mem_cons.1 hj with ej | hj'
      · rw [ej, e1] at ht'
        exact Nat.lt_irrefl _ (Nat.lt_of_lt_of_le ht'.2 (g5 k hk' t ht).1)
      · exact g6 k j hk' hj' hne t ht ht'
  · rcases List.mem_cons.1 hj with rfl | hj
    · rw [g1] at hkd
      rw [e2] at ht
      exact ((h5 hkd).1 t ht).1
    · exact fun hm => g7 j hj hkd t ht (hsub t hm)
  · rw [g1] at hkd
    have hn := g7 j hj hkj t ht
    rcases hor with h | h
    · rw [e2] at h; exact hn ((h5 hkd).1 t h).2
    · rw [e1] at h; exact hn ((h5 hkd).2 t h)
  · rw [g2]; exact hB j hj
  · obtain ⟨L1, hs, hp⟩ := hstp G g1 g2 e1 e2 e3 e4 hoff
    obtain ⟨M', hs', hp'⟩ := hs.frame (M := L) (R := []) (by simpa using hL)
    refine ⟨o, x, M', ho, hs', ?_⟩
    rw [← hE]
    exact g9 C hC hfin M' ((by simpa using hp' : M'.Perm L1).trans hp)

theorem stillA_ok {H : HT} {l : List Rem} (h : stillA K H l = true) : ∀ m, m ∈ l → loadV (ldF K.P m.t) m.p H = some m.x := fun m hm => by
  unfold stillA at h
  rw [allB_eq] at h
  have h1 : still1 K H m = true := List.all_eq_true.1 h m hm
  unfold still1 at h1
  cases hl : loadV (ldF K.P m.t) m.p H with
  | none => rw [hl] at h1; exact nomatch (show false = true from h1)
  | some y =>
    rw [hl] at h1
    rw [sameV_ok 60 _ _ (show sameV 60 m.x y = true from h1)]

theorem hasN_mem {l : List Nat} {t : Nat} : hasN l t = true ↔ t ∈ l := by
  unfold hasN
  rw [List.any_eq_true]
  constructor
  · rintro ⟨k, hk, e⟩; rw [← Nat.eq_of_beq_eq_true e]; exact hk
  · intro h; exact ⟨t, h, Nat.beq_refl t⟩

/-- A run of a region is one that the logic allows. -/
theorem Ran.wc (hcall : CallOK K call) (hok : okOps n ops = true) {l : List (Nat × Nat)} {s : Seen} {E E2 : ET} {H H2 : HT} {c c2 : Nat} (hr : Ran K call ops l s E H c E2 H2 c2) :
    ∀ (G0 : Gh), (l.map (·.1)).Nodup → (∀ i f o, (i, f) ∈ l → ops[i]? = some o → G0.kd i = kdOp K.P o.op f) → BOK G0.B (l.map (·.1)) →
      (∀ i', i' ∉ l.map (·.1) → G0.kd i' = 6 → ∀ x', G0.X i' x' → ∃ m, m ∈ s.rs ∧ ∃ y o', ops[i']? = some o' ∧ o'.op = .load m.t y ∧ G0.R i' y = m.p ∧ x' = m.x) →
      Concl K n ops (l.map (·.1)) s E H c E2 H2 c2 G0 := by
  induction hr with
  | nil s E H c =>
    intro G0 _ _ _ _
    exact ⟨G0, rfl, rfl, fun _ _ => ⟨rfl, rfl, rfl, rfl⟩, Nat.le_refl _, fun i hi => by simp at hi, fun i j hi => by simp at hi, fun j hj => by simp at hj, trivial, fun C hC hfin L hL => hC _ _ _ hL.symm hfin⟩
  | @plain i o l s E E1 E2 H H1 H2 c c1 c2 ho h t ih =>
    intro G0 hnd hkd hB hX
    have hnd' := List.nodup_cons.1 hnd
    have hk : G0.kd i = kind0 K.P o.op := hkd i 0 o List.mem_cons_self ho
    have hk4 := kind0_le K.P o.op
    obtain ⟨x, hE, hd, hc, hor⟩ := stepO_ok hcall hok ho h
    refine Concl.cons (W0 := fun _ => False) (R0 := evN K (envOf E)) (X0 := fun _ => False) ho hnd'.1 hE hc (fun _ h => h) (fun h => absurd (h.symm.trans hk) (by omega)) hB.1 (fun G g1 g2 e1 e2 e3 e4 hoff => ?_) (ih _ hnd'.2 (fun j f o' hj => hkd j f o' (List.mem_cons_of_mem _ hj)) hB.2.2 (fun i' hi' h6 x' hx' => ?_))
    · have hkk : kk (G.kd i) = kind0 K.P o.op := by rw [g1, hk]; unfold kk; rw [if_neg (show ¬ kind0 K.P o.op = 6 by omega), if_neg (show ¬ kind0 K.P o.op = 7 by omega)]
      rcases hor with ⟨hg, _, _, hres⟩ | ⟨hg, _, rfl, rfl, rfl⟩
      · obtain ⟨L1, hop, hp⟩ := hres.op
        refine ⟨L1, ⟨hd, Or.inl ⟨hg, ?_, fun h => ?_, fun h => ?_⟩⟩, hp⟩
        · rw [hkk, e1, e2]; exact hop
        · rw [g1, hk] at h; omega
        · rw [g1, hk] at h; omega
      · exact ⟨_, ⟨hd, Or.inr ⟨hg, rfl, rfl⟩⟩, List.Perm.refl _⟩
    · by_cases hi : i' = i
      · subst hi
        have h6' : G0.kd i' = 6 := h6
        omega
      · simp only [Gh.set, if_neg hi] at hx' ⊢
        exact hX i' (fun hm => by rcases List.mem_cons.1 hm with e | hm; exact hi e; exact hi' hm) h6 x' hx'
  | @loc i o l s fp E E1 E2 H H1 H2 c c1 c2 ho hf ha h t ih =>
    intro G0 hnd hkd hB hX
    have hnd' := List.nodup_cons.1 hnd
    have hk : G0.kd i = 5 := hkd i 2 o List.mem_cons_self ho
    obtain ⟨x, hE, hd, hc, hor⟩ := stepO_ok hcall hok ho h
    obtain ⟨_, hslots, _⟩ := okOps_get hok ho
    have hap : ∀ t, t ∈ fp → t ∉ s.ns := fun t ht hm => by
      unfold apartN at ha
      have := List.all_eq_true.1 ha t ht
      rw [hasN_mem.2 hm] at this
      cases this
    -- only a store
    cases hop : o.op with
    | store ty y z =>
      have sl : ∀ y, y ∈ o.op.operands → slotOK y = true := fun y hy => List.all_eq_true.1 hslots y (by simpa using hy)
      have hsl : slotOK y = true ∧ slotOK z = true := ⟨sl y (by simp [hop, Op.operands]), sl z (by simp [hop, Op.operands])⟩
      rw [hop] at hf
      cases (show some (namesV (evT K E y)) = some fp from hf)
      have hcc : c1 ≤ c + 1 := by
        rcases hor with ⟨_, _, hcomp, _⟩ | ⟨_, _, _, _, rfl⟩
        · rw [hop] at hcomp
          obtain ⟨_, _, _, _, _, _, _, _, _, _, e, _⟩ := cStore_inv hop hsl (show (cStore ty y z K).f call ⟨c, Nat.succ c, c, E, H⟩ = .ok x H1 c1 from hcomp)
          rw [e]; exact Nat.le_succ c
        · omega
      refine Concl.cons (W0 := fun t => t ∈ namesV (evT K E y)) (R0 := evN K (envOf E)) (X0 := fun _ => False) ho hnd'.1 hE hc (fun t ht => ?_) (fun _ => ⟨fun t ht => ⟨hap t ht, ?_⟩, fun t ht => ?_⟩) hB.1 (fun G g1 g2 e1 e2 e3 e4 hoff => ?_) (ih _ hnd'.2 (fun j f o' hj => hkd j f o' (List.mem_cons_of_mem _ hj)) hB.2.2 (fun i' hi' h6 x' hx' => ?_))
      · show t ∈ c :: app _ s.ns
        rw [app_eq]; simp [ht]
      · show t ∈ c :: app _ s.ns
        rw [app_eq]; simp [ht]
      · have : t = c := by have := ht.1; have := ht.2; omega
        subst this
        exact List.mem_cons_self
      · have hkk : kk (G.kd i) = 5 := by rw [g1, hk]; rfl
        rcases hor with ⟨hg, _, hcomp, _⟩ | ⟨hg, _, rfl, rfl, rfl⟩
        · rw [hop] at hcomp
          obtain ⟨sz, τ, a, b, k, es, e, R, hy, rfl, _, p1, p2, hopn⟩ := cStore_inv hop hsl (show (cStore ty y z K).f call ⟨c, Nat.succ c, c, E, H⟩ = .ok x H1 c1 from hcomp)
          have hW : τ ∈ namesV (evT K E y) := by
            have : evT K E y = .rp sz τ a b := by rw [evT_ok hsl.1]; exact hy
            rw [this]
            show τ ∈ [τ]
            simp
          refine ⟨[(τ, .row sz k (es.set a e))] ++ R, ⟨hd, Or.inl ⟨hg, ?_, fun h => ?_, fun h => ?_⟩⟩, p2.symm⟩
          · rw [hkk, e1, e2]
            refine .local_ _ [(τ, .row sz k es)] _ R p1 (hopn.names fun t h => h.elim) (fun q hq => ?_) (fun q hq => Or.inl ?_)
            · simp at hq; subst hq; exact hW
            · simp at hq; subst hq; exact hW
          · rw [g1, hk] at h; omega
          · rw [g1, hk] at h; omega
        · exact ⟨_, ⟨hd, Or.inr ⟨hg, rfl, rfl⟩⟩, List.Perm.refl _⟩
      · by_cases hi : i' = i
        · subst hi
          have h6' : G0.kd i' = 6 := h6
          omega
        · simp only [Gh.set, if_neg hi] at hx' ⊢
          exact hX i' (fun hm => by rcases List.mem_cons.1 hm with e | hm; exact hi e; exact hi' hm) h6 x' hx'
    | _ => rw [hop] at hf; exact nomatch (show none = some fp from hf)
  | @rem i o m l s E E1 E2 H H1 H2 c c1 c2 ho h hm t ih =>
    intro G0 hnd hkd hB hX
    have hnd' := List.nodup_cons.1 hnd
    have hk : G0.kd i = 6 := hkd i 3 o List.mem_cons_self ho
    obtain ⟨x, hE, hd, hc, hor⟩ := stepO_ok hcall hok ho h
    obtain ⟨_, hslots, hn256⟩ := okOps_get hok ho
    -- a load into a slot
    obtain ⟨ty, y, d, hop, hdst, rfl⟩ : ∃ ty y d, o.op = .load ty y ∧ o.dst = some d ∧ m = ⟨ty, evT K E y, lkS E1 d⟩ := by
      unfold remO at hm
      split at hm
      · rename_i ty y d h1 h2
        cases hm
        exact ⟨ty, y, d, h1, h2, rfl⟩
      · cases hm
    have hsl : slotOK y = true := List.all_eq_true.1 hslots y (by simp [hop, Op.operands])
    have hx : lkS E1 d = x := by
      rw [hdst] at hE hd
      have hdn : d < n := Nat.le_of_ble_eq_true (show Nat.ble (d + 1) n = true from hd)
      have h1 : envOf E1 d = lkS E1 d := if_pos (Nat.lt_of_lt_of_le hdn hn256)
      rw [← h1, hE]
      show updF (envOf E) d x d = x
      simp [updF]
    have hk1 : kind0 K.P o.op = 1 := by rw [hop]; rfl
    refine Concl.cons (W0 := fun _ => False) (R0 := evN K (envOf E)) (X0 := fun y => y = x) ho hnd'.1 hE hc (fun _ h => h) (fun h => absurd (h.symm.trans hk) (by omega)) hB.1 (fun G g1 g2 e1 e2 e3 e4 hoff => ?_) (ih _ hnd'.2 (fun j f o' hj => hkd j f o' (List.mem_cons_of_mem _ hj)) hB.2.2 (fun i' hi' h6 x' hx' => ?_))
    · have hkk : kk (G.kd i) = 1 := by rw [g1, hk]; rfl
      rcases hor with ⟨hg, _, _, hres⟩ | ⟨hg, _, rfl, rfl, rfl⟩
      · obtain ⟨L1, hopc, hp⟩ := hres.op
        rw [hk1] at hopc
        refine ⟨L1, ⟨hd, Or.inl ⟨hg, ?_, fun _ => ⟨?_, fun y _ => ?_⟩, fun h => ?_⟩⟩, hp⟩
        · rw [hkk, e1, e2]; exact hopc
        · rw [e4]
        · rw [e3]
        · rw [g1, hk] at h; omega
      · exact ⟨_, ⟨hd, Or.inr ⟨hg, rfl, rfl⟩⟩, List.Perm.refl _⟩
    · by_cases hi : i' = i
      · subst hi
        simp only [Gh.set, if_true] at hx' ⊢
        refine ⟨_, List.mem_cons_self, y, o, ho, hop, (evT_ok hsl).symm, ?_⟩
        rw [hx']; exact hx.symm
      · simp only [Gh.set, if_neg hi] at hx' ⊢
        obtain ⟨m', hm', hrest⟩ := hX i' (fun hm => by rcases List.mem_cons.1 hm with e | hm; exact hi e; exact hi' hm) h6 x' hx'
        exact ⟨m', List.mem_cons_of_mem _ hm', hrest⟩
  | @remNo i o l s E E1 E2 H H1 H2 c c1 c2 ho h hg t ih =>
    intro G0 hnd hkd hB hX
    have hnd' := List.nodup_cons.1 hnd
    have hk : G0.kd i = 6 := hkd i 3 o List.mem_cons_self ho
    obtain ⟨x, hE, hd, hc, hor⟩ := stepO_ok hcall hok ho h
    refine Concl.cons (W0 := fun _ => False) (R0 := evN K (envOf E)) (X0 := fun _ => False) ho hnd'.1 hE hc (fun _ h => h) (fun h => absurd (h.symm.trans hk) (by omega)) hB.1 (fun G g1 g2 e1 e2 e3 e4 hoff => ?_) (ih _ hnd'.2 (fun j f o' hj => hkd j f o' (List.mem_cons_of_mem _ hj)) hB.2.2 (fun i' hi' h6 x' hx' => ?_))
    · rcases hor with ⟨_, hg2, _, _⟩ | ⟨hg2, _, rfl, rfl, rfl⟩
      · exact absurd hg2 hg
      · exact ⟨_, ⟨hd, Or.inr ⟨hg2, rfl, rfl⟩⟩, List.Perm.refl _⟩
    · by_cases hi : i' = i
      · subst hi
        simp only [Gh.set, if_true] at hx'
      · simp only [Gh.set, if_neg hi] at hx' ⊢
        exact hX i' (fun hm => by rcases List.mem_cons.1 hm with e | hm; exact hi e; exact hi' hm) h6 x' hx'
  | @still i o l s E E1 E2 H H1 H2 c c1 c2 ho h hs t ih =>
    intro G0 hnd hkd hB hX
    have hnd' := List.nodup_cons.1 hnd
    have hk : G0.kd i = 7 := hkd i 4 o List.mem_cons_self ho
    obtain ⟨x, hE, hd, hc, hor⟩ := stepO_ok hcall hok ho h
    refine Concl.cons (W0 := fun _ => False) (R0 := evN K (envOf E)) (X0 := fun _ => False) ho hnd'.1 hE hc (fun _ h => h) (fun h => absurd (h.symm.trans hk) (by omega)) hB.1 (fun G g1 g2 e1 e2 e3 e4 hoff => ?_) (ih _ hnd'.2 (fun j f o' hj => hkd j f o' (List.mem_cons_of_mem _ hj)) hB.2.2 (fun i' hi' h6 x' hx' => ?_))
    · have hkk : kk (G.kd i) = 3 := by rw [g1, hk]; rfl
      rcases hor with ⟨hg, _, _, hres⟩ | ⟨hg, _, rfl, rfl, rfl⟩
      · obtain ⟨L1, hopc, hp⟩ := hres.op
        refine ⟨L1, ⟨hd, Or.inl ⟨hg, ?_, fun h => ?_, fun _ => ?_⟩⟩, hp⟩
        · rw [hkk, e1]
          exact .any _ _ hopc.opN
        · rw [g1, hk] at h; omega
        · intro i' o' x' hb h6 ho' hx'
          rw [g2] at hb
          rw [g1] at h6
          have hni := hB.2.1 i' hb
          obtain ⟨_, _, f3, f4⟩ := hoff i' hni
          rw [f4] at hx'
          obtain ⟨m, hm, y, o2, ho2, hop2, hp2, rfl⟩ := hX i' hni h6 x' hx'
          rw [ho'] at ho2
          cases ho2
          have hl := stillA_ok hs m hm
          rw [← hp2] at hl
          rw [f3]
          exact (load_opN (K := K) (I := fun _ => False) hop2 hl).perm hp hp.symm
      · exact ⟨_, ⟨hd, Or.inr ⟨hg, rfl, rfl⟩⟩, List.Perm.refl _⟩
    · by_cases hi : i' = i
      · subst hi
        have h6' : G0.kd i' = 6 := h6
        omega
      · simp only [Gh.set, if_neg hi] at hx' ⊢
        exact hX i' (fun hm => by rcases List.mem_cons.1 hm with e | hm; exact hi e; exact hi' hm) h6 x' hx'
end
end Go.Fs

namespace Go.Fs
open Go

theorem flag_mem : ∀ {l : List (Nat × Nat)} {i f : Nat}, (l.map (·.1)).Nodup → (i, f) ∈ l → (l.lookup i).getD 0 = f
  | [], _, _, _, h => by simp at h
  | (j, g) :: l, i, f, hn, h => by
    have hn' := List.nodup_cons.1 hn
    rcases List.mem_cons.1 h with e | h2
    · cases e; simp [List.lookup]
    · have hne : i ≠ j := fun e => hn'.1 (List.mem_map.2 ⟨(i, f), h2, e⟩)
      have : (i == j) = false := by simp [hne]
      simp only [List.lookup, this]
      exact flag_mem hn'.2 h2

def kdL (P : Program) (ops : Array Oper) (l : List (Nat × Nat)) (i : Nat) : Nat := match ops[i]? with
  | some o => kdOp P o.op ((l.lookup i).getD 0)
  | none => 0

def ordOf (K : Cfg) (fid id : Nat) (ops : Array Oper) (draw : Bool) : List (Nat × Nat) := match draw with
  | false => textOrd 0 ops.size
  | true => match K.ord fid id with
    | none => textOrd 0 ops.size
    | some l => l

/-- What must be right about a region's text. -/
def okReg (K : Cfg) (n fid id : Nat) (ops : Array Oper) (draw : Bool) : Bool :=
  okOps n ops && (!draw || drawN ops (kdL K.P ops (ordOf K fid id ops draw)) ((ordOf K fid id ops draw).map (·.1)))

def okCode (K : Cfg) (n fid : Nat) : Code → Bool
  | .region id ops draw => okReg K n fid id ops draw
  | .seq a b => okCode K n fid a && okCode K n fid b
  | .cond q a b => slotOK q && okCode K n fid a && okCode K n fid b
  | .block _ a => okCode K n fid a
  | .loop a => okCode K n fid a
  | _ => true
def okItem (K : Cfg) (n fid : Nat) : Item → Bool
  | .code c => okCode K n fid c
  | .inLoop c => okCode K n fid c
  | _ => true
def okItems (K : Cfg) (n fid : Nat) (k : List Item) : Bool := k.all (okItem K n fid)

theorem okItems_exit {K : Cfg} {n fid id : Nat} : ∀ {k k' : List Item}, exitTo id k = some k' → okItems K n fid k = true → okItems K n fid k' = true
  | [], k', h, _ => by simp [exitTo] at h
  | it :: k, k', h, hk => by
    have hk' : okItems K n fid k = true := by
      unfold okItems at hk ⊢
      simp only [List.all_cons, Bool.and_eq_true] at hk
      exact hk.2
    cases it with
    | inBlock id2 =>
      unfold exitTo at h
      cases he : (id2 == id) with
      | true => simp only [he, if_true, Option.some.injEq] at h; subst h; exact hk'
      | false => simp only [he] at h; exact okItems_exit (by simpa using h) hk'
    | _ => exact okItems_exit (k := k) (by simpa [exitTo] using h) hk'

theorem textOrd_fst (k m : Nat) : (textOrd k m).map (·.1) = List.range' k m := by
  unfold textOrd
  rw [List.map_map]
  exact List.map_id' _

section
variable {K : Cfg} {call : CallT}

theorem regO_ran {fid id : Nat} {ops : Array Oper} {draw : Bool} {E E1 : ET} {H H1 : HT} {c c1 : Nat} (h : (regO K fid id ops draw).f call E H c = .ok E1 H1 c1) : Ran K call ops (ordOf K fid id ops draw) ⟨[], []⟩ E H c E1 H1 c1 := by
  have text : opsR K call ops ops.toList E H c = .ok E1 H1 c1 → Ran K call ops (textOrd 0 ops.size) ⟨[], []⟩ E H c E1 H1 c1 := fun h => by
    have := opsR_ran (K := K) (call := call) (ops := ops) ops.toList 0 ⟨[], []⟩ E H c E1 H1 c1 (fun j _ => by simp) h
    simpa using this
  unfold regO at h
  unfold ordOf
  cases draw with
  | false => exact text h
  | true =>
    simp only at h ⊢
    cases ho : K.ord fid id with
    | none => rw [ho] at h; exact text h
    | some l => rw [ho] at h; exact opsX_ran l _ _ _ _ _ _ _ h

theorem region_ok (hcall : CallOK K call) (hmix : K.P.follows .mixedOrders = true) {n fid id : Nat} {ops : Array Oper} {draw : Bool} (hok : okReg K n fid id ops draw = true) {E E1 : ET} {H H1 : HT} {c c1 : Nat} (h : (regO K fid id ops draw).f call E H c = .ok E1 H1 c1) :
    c ≤ c1 ∧ ∀ k c' D, c1 ≤ c' → (∀ L, L.Perm (toL H1) → SN K n k (envOf E1) L c1 c' D) → ∀ L, L.Perm (toL H) → SN K n (.code (.region id ops draw) :: k) (envOf E) L c c' D := by
  unfold okReg at hok
  simp only [Bool.and_eq_true, Bool.or_eq_true, Bool.not_eq_true'] at hok
  obtain ⟨hops, hdraw⟩ := hok
  have hran := regO_ran h
  let l := ordOf K fid id ops draw
  have hnd : (l.map (·.1)).Nodup := by
    cases draw with
    | false =>
      show ((textOrd 0 ops.size).map (·.1)).Nodup
      rw [textOrd_fst]; exact List.nodup_range'
    | true =>
      have hd := hdraw.resolve_left (by simp)
      unfold drawN at hd
      simp only [Bool.and_eq_true] at hd
      exact distinctN_spec hd.1.1.1.2
  let G0 : Gh := ⟨fun _ _ => False, fun _ _ => False, kdL K.P ops l, fun _ _ => .und, fun _ _ => False, Bef (l.map (·.1))⟩
  have hcon := Ran.wc hcall hops hran G0 hnd (fun i f o hm ho => by
    show kdL K.P ops l i = _
    unfold kdL
    rw [ho]
    simp only
    rw [flag_mem hnd hm]) (BOK.of _ hnd _ [] rfl) (fun i' _ _ x' hx => hx.elim)
  obtain ⟨G, g1, g2, g3, g4, g5, g6, g7, g8, g9⟩ := hcon
  refine ⟨g4, fun k c' D hcc hk L hL => ?_⟩
  have hw := g9 (fun E' L' => SN K n k E' L' c1 c' D) (fun E' L' M' p h => SN.perm p h) (hk _ (List.Perm.refl _)) L hL
  have hI : ∀ i t, G.I i t → Rng c c1 t := fun i t ht => by
    by_cases hi : i ∈ l.map (·.1)
    · exact g5 i hi t ht
    · rw [(g3 i hi).1] at ht; exact ht.elim
  have hdj : ∀ i j t, i ≠ j → G.I i t → ¬ G.I j t := fun i j t hne ht ht' => by
    by_cases hi : i ∈ l.map (·.1)
    · by_cases hj : j ∈ l.map (·.1)
      · exact g6 i j hi hj hne t ht ht'
      · rw [(g3 j hj).1] at ht'; exact ht'.elim
    · rw [(g3 i hi).1] at ht; exact ht.elim
  cases draw with
  | false =>
    refine SN.region g4 hcc hdj hI ?_
    have e : l.map (·.1) = List.range ops.size := by
      show (textOrd 0 ops.size).map (·.1) = _
      rw [textOrd_fst, List.range_eq_range']
    rw [← e]; exact hw
  | true =>
    have hd := hdraw.resolve_left (by simp)
    have hd' : drawN ops G.kd (l.map (·.1)) = true := by rw [g1]; exact hd
    exact SN.regionDraw hmix hd' g8 g4 hcc hdj hI hw

/-- What the run of a frame's rest says. -/
def RunOK (K : Cfg) (run : RunT) : Prop := ∀ fid n k E H c E' H' c', okItems K n fid k = true → run fid k E H c = .ok E' H' c' →
  c ≤ c' ∧ ∀ L, L.Perm (toL H) → SN K n k (envOf E) L c c' fun E2 L2 => E2 = envOf E' ∧ L2.Perm (toL H')

theorem run_step (hmix : K.P.follows .mixedOrders = true) {run : RunT} (hrun : RunOK K run) (hcall : CallOK K (callF K run)) {fid n : Nat} {k : List Item} {E : ET} {H : HT} {c : Nat} {E' : ET} {H' : HT} {c' : Nat} (hk : okItems K n fid k = true)
    (h : (stList k K).f run fid E H c = .ok E' H' c') : c ≤ c' ∧ ∀ L, L.Perm (toL H) → SN K n k (envOf E) L c c' fun E2 L2 => E2 = envOf E' ∧ L2.Perm (toL H') := by
  have no : ∀ {α : Prop}, RO.no = RO.ok E' H' c' → α := fun h => nomatch h
  have done : RO.ok E H c = .ok E' H' c' → ∀ k, (∀ L D, D (envOf E) L → SN K n k (envOf E) L c c D) → c ≤ c' ∧ ∀ L, L.Perm (toL H) → SN K n k (envOf E) L c c' fun E2 L2 => E2 = envOf E' ∧ L2.Perm (toL H') := fun h k hs => by
    cases h
    exact ⟨Nat.le_refl _, fun L hL => hs L _ ⟨rfl, hL⟩⟩
  cases k with
  | nil => exact done h [] fun L D hD => SN.nil hD
  | cons it k =>
    unfold okItems at hk
    simp only [List.all_cons, Bool.and_eq_true] at hk
    obtain ⟨hit, hkk⟩ := hk
    have go : ∀ k2, run fid k2 E H c = .ok E' H' c' → okItems K n fid k2 = true → (∀ L D, SN K n k2 (envOf E) L c c' D → SN K n (it :: k) (envOf E) L c c' D) →
        c ≤ c' ∧ ∀ L, L.Perm (toL H) → SN K n (it :: k) (envOf E) L c c' fun E2 L2 => E2 = envOf E' ∧ L2.Perm (toL H') := fun k2 h2 hk2 hs => by
      obtain ⟨h3, h4⟩ := hrun fid n k2 E H c E' H' c' hk2 h2
      exact ⟨h3, fun L hL => hs L _ (h4 L hL)⟩
    have cons2 : ∀ it2, okItem K n fid it2 = true → ∀ k2, okItems K n fid k2 = true → okItems K n fid (it2 :: k2) = true := fun it2 h1 k2 h2 => by
      unfold okItems at h2 ⊢
      simp only [List.all_cons, Bool.and_eq_true]
      exact ⟨h1, h2⟩
    cases it with
    | code x =>
      cases x with
      | skip => exact go k h hkk fun L D hs => SN.skip hs
      | region id ops draw =>
        obtain ⟨E1, H1, c1, h1, h2⟩ := andThen_inv (show andThen ((regO K fid id ops draw).f (callF K run) E H c) (run fid k) = _ from h)
        obtain ⟨r1, r2⟩ := region_ok hcall hmix (show okReg K n fid id ops draw = true from hit) h1
        obtain ⟨r3, r4⟩ := hrun fid n k E1 H1 c1 E' H' c' hkk h2
        exact ⟨Nat.le_trans r1 r3, fun L hL => r2 k c' _ r3 r4 L hL⟩
      | seq a b =>
        have hab : okCode K n fid a = true ∧ okCode K n fid b = true := by
          have : okCode K n fid (.seq a b) = true := hit
          simpa [okCode] using this
        exact go _ h (cons2 (.code a) hab.1 _ (cons2 (.code b) hab.2 _ hkk)) fun L D hs => SN.seq hs
      | cond q a b =>
        have hab : (slotOK q = true ∧ okCode K n fid a = true) ∧ okCode K n fid b = true := by
          have : okCode K n fid (.cond q a b) = true := hit
          simpa [okCode] using this
        have h : @Option.rec _ (fun _ => RO) RO.no (fun t => run fid (.code (@Bool.rec (fun _ => Code) b a t) :: k) E H c) (asBool (evT K E q)) = .ok E' H' c' := h
        cases hq : asBool (evT K E q) with
        | none => rw [hq] at h; exact no h
        | some t =>
          rw [hq] at h
          have hb := asBool_inv hq
          rw [evT_ok hab.1.1] at hb
          cases t with
          | true => exact go _ (show run fid (.code a :: k) E H c = _ from h) (cons2 (.code a) hab.1.2 _ hkk) fun L D hs => SN.cond hb hs
          | false => exact go _ (show run fid (.code b :: k) E H c = _ from h) (cons2 (.code b) hab.2 _ hkk) fun L D hs => SN.cond hb hs
      | block id a =>
        have ha : okCode K n fid a = true := by
          have : okCode K n fid (.block id a) = true := hit
          simpa [okCode] using this
        exact go _ h (cons2 (.code a) ha _ (cons2 (.inBlock id) rfl _ hkk)) fun L D hs => SN.block hs
      | loop a =>
        have ha : okCode K n fid a = true := by
          have : okCode K n fid (.loop a) = true := hit
          simpa [okCode] using this
        exact go _ h (cons2 (.code a) ha _ (cons2 (.inLoop a) ha _ hkk)) fun L D hs => SN.loop hs
      | exit id =>
        have h : (kJump (exitTo id k)).f run fid E H c = .ok E' H' c' := h
        cases he : exitTo id k with
        | none => rw [he] at h; exact no h
        | some k2 =>
          rw [he] at h
          exact go k2 h (okItems_exit he hkk) fun L D hs => SN.exit he hs
      | label l => exact go k h hkk fun L D hs => SN.label hs
      | ret => exact done h _ fun L D hD => SN.ret hD
      | rangeFunc a b c d => exact no h
      | scope a => exact no h
      | goto a => exact no h
      | refuse a => exact no h
    | inBlock id => exact go k h hkk fun L D hs => SN.inBlock hs
    | inLoop a =>
      have ha : okCode K n fid a = true := hit
      exact go _ h (cons2 (.code a) ha _ (cons2 (.inLoop a) ha _ hkk)) fun L D hs => SN.inLoop hs
    | _ => exact no h
end
end Go.Fs

namespace Go.Fs
open Go

def okRes (r : ResultVar) : Bool := match r with
  | .tmp t => Nat.blt t 256
  | .cell t _ => Nat.blt t 256
/-- What must be right about a function's text. -/
def okFn (K : Cfg) (f : Nat) (fn : Func) : Bool :=
  !(fn.name == "runtime.NumGoroutine") && (Nat.ble fn.ntmps 256 && ((match fn.body with | some b => okCode K fn.ntmps f b | none => false) && fn.results.toList.all okRes))

def BodyOK (K : Cfg) : Prop := ∀ f fn, K.body f = some fn → K.P.funcs[f]? = some fn ∧ okFn K f fn = true
/-- The functions that are not run but known. -/
def NatOK (K : Cfg) : Prop := ∀ f g, K.nat f = some g → ∀ args H c x H' c', g args H c = .ok x H' c' → c ≤ c' ∧ CallN K f args (toL H) c c' x (toL H')

section
variable {K : Cfg}

theorem envOf_E0 (i : Nat) : envOf E0T i = .und := by
  show (if i < 256 then lkS E0T i else .und) = .und
  split
  · exact acc_full FV.und 8 i
  · rfl

theorem argE_ok : ∀ (args : List FV) (k : Nat) (E : ET), k + args.length ≤ 256 → ∀ i, envOf (argE args k E) i = if k ≤ i ∧ i < k + args.length then args.getD (i - k) .und else envOf E i
  | [], k, E, _, i => by
    have : ¬ (k ≤ i ∧ i < k + ([] : List FV).length) := by simp
    rw [if_neg this]; rfl
  | x :: r, k, E, h, i => by
    have h2 : (k + 1) + r.length ≤ 256 := by simp at h; omega
    have ih := argE_ok r (k + 1) (putS k x E) h2 i
    have e : argE (x :: r) k E = argE r (k + 1) (putS k x E) := rfl
    rw [e, ih, envOf_put (by simp at h; omega)]
    unfold updF
    simp only [List.length_cons]
    by_cases h3 : k + 1 ≤ i ∧ i < k + 1 + r.length
    · rw [if_pos h3, if_pos (by omega)]
      have : i - k = (i - (k + 1)) + 1 := by omega
      rw [this, List.getD_cons_succ]
    · rw [if_neg h3]
      by_cases h4 : i = k
      · subst h4; rw [if_pos rfl, if_pos (by omega)]; simp
      · rw [if_neg h4, if_neg (by omega)]

theorem load_run {P : Program} {t : TypeId} {y x : FV} {H : HT} {Z : Ctx} {w : World} {F : Heap} {u : Value} (h : loadV (ldF P t) y H = some x) (hok : HeapOK Z w (toL H ++ F)) (hv : VR Z y u) :
    ∃ a v, u = .pointer (some a) ∧ (loadVar t a).run P w = .ok v w ∧ VR Z x v := by
  cases y <;> first | exact nomatch (show none = some x from h) | skip
  · rename_i cs
    obtain ⟨n, h1, h2, h3⟩ := ldF_inv (show (ldF P t).f cs 0 = some x from h)
    cases hv with
    | pp cs b p vs hc hvr =>
      obtain ⟨v, hu, hxu⟩ := load_ok (P := P) (t := t) (n := n) (Z := Z) (w := w) (b := b) (o := p) (off := 0) (cs := cs) (x := x) vs h2 h1 (fun i hi => ⟨hok.cell _ _ _ (hc i hi), hvr i hi⟩) h3
      exact ⟨_, v, rfl, by simpa using hu, hxu⟩
  · rename_i sz τ i j
    have h : loadR (ldF P t) i j (rowAt sz τ H) = some x := h
    unfold rowAt at h
    cases hl : lkH τ H with
    | none => rw [hl] at h; exact nomatch (show none = some x from h)
    | some ob =>
      rw [hl] at h
      cases ob <;> first | exact nomatch (show none = some x from h) | skip
      rename_i s k es
      have h : loadR (ldF P t) i j (@Bool.rec (fun _ => Option (List (List FV))) none (some es) (Nat.beq s sz)) = some x := h
      cases hs : Nat.beq s sz with
      | false => rw [hs] at h; exact nomatch (show none = some x from h)
      | true =>
        have hs' := Nat.eq_of_beq_eq_true hs
        subst hs'
        rw [hs] at h
        have h : loadR (ldF P t) i j (some es) = some x := h
        unfold loadR at h
        simp only [nth_eq] at h
        cases he : es[i]? with
        | none => rw [he] at h; exact nomatch (show none = some x from h)
        | some e =>
          rw [he] at h
          obtain ⟨n, h1, h2, h3⟩ := ldF_inv (show (ldF P t).f e j = some x from h)
          obtain ⟨R, hp⟩ := lkH_row hl
          have hrow := hok.row (List.mem_append_left F (hp.mem_iff.2 List.mem_cons_self))
          cases hv with
          | rp _ _ _ _ b hb =>
            rcases hrow with ⟨hn0, _⟩ | ⟨b', vs, ty, fr, N, hn1, hx, hsz, hN, hel, hvv⟩
            · rw [hb] at hn0; cases hn0
            · rw [hb] at hn1; cases hn1
              have hlt : i < es.length := (List.getElem?_eq_some_iff.1 he).1
              have hle : e.length = s := hel e (List.mem_of_getElem? he)
              have hrw : i * s + s ≤ N * s := by
                have : (i + 1) * s ≤ N * s := Nat.mul_le_mul_right s (by omega)
                rw [Nat.add_mul] at this; omega
              obtain ⟨v, hu, hxu⟩ := load_ok (P := P) (t := t) (n := n) (Z := Z) (w := w) (b := b) (o := i * s) (off := j) (cs := e) (x := x) (fun d => vs.getD (i * s + d) undef) h2 h1
                (fun d hd => ⟨by rw [cell_of hx]; simp [Array.getD, show i * s + d < vs.size by omega], by
                  have := hvv i d hlt (by omega)
                  simpa [List.getD, he] using this⟩) h3
              exact ⟨_, v, rfl, hu, hxu⟩

theorem res1_ok {n : Nat} {Z : Ctx} {w : World} {F : Heap} {E : ET} {H : HT} {a : Act} (r : RN n Z w F (envOf E) (toL H) a) {rv : ResultVar} {x : FV} (hs : okRes rv = true) (h : res1 K E H rv = some x) :
    ∃ u, (resSem a.tmps rv).run K.P w = .ok u w ∧ VR Z x u := by
  have env : ∀ t, Nat.blt t 256 = true → VR Z (lkS E t) (a.tmps.getD t undef) := fun t ht => by
    have h1 := r.env t
    have h2 : envOf E t = lkS E t := if_pos (Nat.le_of_ble_eq_true ht)
    rw [h2] at h1; exact h1
  cases rv with
  | tmp t =>
    cases (show some (lkS E t) = some x from h)
    exact ⟨_, rfl, env t hs⟩
  | cell t ty =>
    obtain ⟨ad, u, e, hu, hx⟩ := load_run (show loadV (ldF K.P ty) (lkS E t) H = some x from h) r.heap (env t hs)
    refine ⟨u, ?_, hx⟩
    simp only [resSem, e, asAddr]
    simpa using hu

theorem resL_ok {n : Nat} {Z : Ctx} {w : World} {F : Heap} {E : ET} {H : HT} {a : Act} (r : RN n Z w F (envOf E) (toL H) a) : ∀ (rs : List ResultVar) (xs : List FV), rs.all okRes = true → mapO (res1 K E H) rs = some xs →
    ∃ vs : List Value, (rs.mapM (resSem a.tmps)).run K.P w = .ok vs w ∧ VRs Z xs vs.toArray
  | [], xs, _, h => by cases (show some [] = some xs from h); exact ⟨[], by simp, VRs.nil Z⟩
  | v :: rs, xs, hs, h => by
    simp only [List.all_cons, Bool.and_eq_true] at hs
    obtain ⟨x, h1, h⟩ := osel (show @Option.rec _ (fun _ => Option (List FV)) none (fun y => consO y (mapO (res1 K E H) rs)) (res1 K E H v) = some xs from h)
    obtain ⟨l, h2, h⟩ := osel (show @Option.rec _ (fun _ => Option (List FV)) none (fun l => some (x :: l)) (mapO (res1 K E H) rs) = some xs from h)
    cases h
    obtain ⟨vs, hrun, hvs⟩ := resL_ok r rs l hs.2 h2
    obtain ⟨u, hu, hxu⟩ := res1_ok r hs.1 h1
    refine ⟨u :: vs, ?_, ⟨by simpa using hvs.len, fun i hi => ?_⟩⟩
    · rw [List.mapM_cons, Sem.run_bind, hu]
      simp only [Result.andThen_ok, Sem.run_bind, hrun, Sem.run_pure]
    · cases i with
      | zero => simpa using hxu
      | succ i =>
        have := hvs.get i (by simpa using hi)
        simpa [Array.getD] using this

theorem res_ok {n : Nat} {fn : Func} {Z : Ctx} {w : World} {F : Heap} {E : ET} {H : HT} {a : Act} (r : RN n Z w F (envOf E) (toL H) a) {x : FV} (hs : fn.results.toList.all okRes = true) (h : (resF K fn.results.toList).f E H = some x) :
    ∃ v, (results fn a.tmps).run K.P w = .ok v w ∧ VR Z x v := by
  have fin : ∀ xs, mapO (res1 K E H) fn.results.toList = some xs → (match xs with | [y] => y | l => .tup l) = x → ∃ v, (results fn a.tmps).run K.P w = .ok v w ∧ VR Z x v := fun xs hm hx => by
    obtain ⟨vs, hrun, hvs⟩ := resL_ok r _ xs hs hm
    have hlen : vs.length = xs.length := by simpa using hvs.len
    have hmr : (fn.results.mapM (resSem a.tmps)).run K.P w = .ok vs.toArray w := by
      rw [Array.mapM_eq_mapM_toList, Sem.run_map, hrun]; rfl
    rw [results_eq, Sem.run_bind, hmr]
    simp only [Result.andThen_ok, Sem.run_pure]
    match xs, vs, hlen, hvs, hx with
    | [y], [v], _, hvs, hx =>
      subst hx
      have := hvs.get 0 (by simp)
      exact ⟨v, by simp, by simpa using this⟩
    | [], [], _, hvs, hx =>
      subst hx
      exact ⟨.tuple #[], by simp, VR.tup' hvs⟩
    | y :: z :: l, v :: u :: vs, _, hvs, hx =>
      subst hx
      exact ⟨.tuple (v :: u :: vs).toArray, by simp, VR.tup' hvs⟩
  unfold resF at h
  split at h
  · rename_i hr
    have h : some (FV.tup []) = some x := h
    cases h
    exact fin [] (by rw [hr]; rfl) rfl
  · rename_i rv hr
    have h : res1 K E H rv = some x := h
    refine fin [x] ?_ rfl
    rw [hr]
    show @Option.rec _ (fun _ => Option (List FV)) none (fun y => consO y (mapO (res1 K E H) [])) (res1 K E H rv) = _
    rw [h]; rfl
  · rename_i rs h0 h1
    obtain ⟨xs, hm, hx⟩ := osel (show @Option.rec _ (fun _ => Option FV) none (fun l => some (FV.tup l)) (mapO (res1 K E H) fn.results.toList) = some x from h)
    cases hx
    refine fin xs hm ?_
    match xs with
    | [] => rfl
    | _ :: _ :: _ => rfl
    | [y] =>
      exfalso
      rw [mapO_eq] at hm
      cases hr : fn.results.toList with
      | nil => exact h0 hr
      | cons a l =>
        cases l with
        | nil => exact h1 a hr
        | cons b l =>
          rw [hr] at hm
          simp only [List.mapM_cons] at hm
          cases ha : res1 K E H a with
          | none => simp [ha] at hm
          | some p =>
            cases hb : res1 K E H b with
            | none => simp [ha, hb] at hm
            | some q =>
              cases hl : l.mapM (res1 K E H) with
              | none => simp [ha, hb, hl] at hm
              | some m => simp [ha, hb, hl] at hm

theorem outO_inv {q : Option FV} {H H' : HT} {c c' : Nat} {x : FV} (h : outO q H c = .ok x H' c') : q = some x ∧ H' = H ∧ c' = c := by
  cases q with
  | none => exact nomatch (show Out.no = Out.ok x H' c' from h)
  | some y => cases (show Out.ok y H c = Out.ok x H' c' from h); exact ⟨rfl, rfl, rfl⟩

theorem callF_ok (hbody : BodyOK K) (hnat : NatOK K) {run : RunT} (hrun : RunOK K run) : CallOK K (callF K run) := fun f args H c x H' c' h => by
  have h : (entF K f).f run args H c = .ok x H' c' := h
  unfold entF at h
  cases hn : K.nat f with
  | some g => rw [hn] at h; exact hnat f g hn args H c x H' c' h
  | none =>
    rw [hn] at h
    cases hb : K.body f with
    | none => rw [hb] at h; exact nomatch (show Out.no = Out.ok x H' c' from h)
    | some fn =>
      rw [hb] at h
      obtain ⟨hf, hok⟩ := hbody f fn hb
      unfold okFn at hok
      simp only [Bool.and_eq_true, Bool.not_eq_true'] at hok
      obtain ⟨hname, hn256, hcode, hres⟩ := hok
      cases hbd : fn.body with
      | none => rw [hbd] at hcode; cases hcode
      | some b =>
        simp only [hbd] at h hcode
        obtain ⟨hlen, h⟩ := bselO (show @Bool.rec (fun _ => Out) .no (outV K fn.results.toList (run f [.code b] (argE args 0 E0T) H c)) (Nat.ble (len args) fn.ntmps) = _ from h)
        rw [len_eq] at hlen
        have hle : args.length ≤ fn.ntmps := Nat.le_of_ble_eq_true hlen
        have hn2 : fn.ntmps ≤ 256 := Nat.le_of_ble_eq_true hn256
        cases hr : run f [.code b] (argE args 0 E0T) H c with
        | no => rw [hr] at h; exact nomatch (show Out.no = Out.ok x H' c' from h)
        | ok E1 H1 c1 =>
          rw [hr] at h
          obtain ⟨hx, rfl, rfl⟩ := outO_inv (show outO ((resF K fn.results.toList).f E1 H1) H1 c1 = _ from h)
          obtain ⟨hc, hsn⟩ := hrun f fn.ntmps [.code b] (argE args 0 E0T) H c E1 H' c' (by unfold okItems; simp only [List.all_cons, List.all_nil, Bool.and_true]; exact hcode) hr
          refine ⟨hc, ⟨fn, hf, hname, by rw [hbd]; rfl⟩, fun Z w F vs hvs hok hfr hg cs => ?_⟩
          let fr : Frame := { (default : Frame) with fn := f, kind := .normal }
          have henter : Frame.enter K.P f vs .normal = fr.at { tmps := vs ++ Array.replicate (fn.ntmps - vs.size) undef, defers := [] } [.code b] := by
            simp [Frame.enter, Frame.at, hf, hbd, fr]
          have r : RN fn.ntmps Z w F (envOf (argE args 0 E0T)) (toL H) { tmps := vs ++ Array.replicate (fn.ntmps - vs.size) undef, defers := [] } := by
            refine ⟨rfl, ?_, hok, fun i => ?_⟩
            · simp [hvs.len]; omega
            · rw [argE_ok args 0 E0T (by omega), envOf_E0]
              by_cases hi : i < args.length
              · rw [if_pos (by omega)]
                have := hvs.get i hi
                have e : (vs ++ Array.replicate (fn.ntmps - vs.size) undef).getD i undef = vs.getD i undef := by
                  simp only [Array.getD_eq_getD_getElem?]
                  rw [Array.getElem?_append_left (by rw [hvs.len]; exact hi)]
                rw [e]; simpa using this
              · rw [if_neg (by omega)]; exact VR.und _
          obtain ⟨Z', w', E2, L2, a', todo, h1, h2, ⟨rfl, h3⟩, h4, h5⟩ := hsn _ (List.Perm.refl _) Z w F _ r hfr hg fr cs
          rw [← henter] at h5
          have h2' : RN fn.ntmps Z' w' F (envOf E1) (toL H') a' := ⟨h2.defers, h2.size, h2.heap.perm (h3.append_right F), h2.env⟩
          obtain ⟨u, h6, h7⟩ := res_ok h2' hres hx
          exact ⟨.returned u, w', _, ⟨u, Z', rfl, h1, h2'.heap, h4, h7⟩, h5, rfl, rfl, h2.defers, rfl, fn, hf, h6⟩

/-- A run of the evaluator. -/
theorem runI_ok (hmix : K.P.follows .mixedOrders = true) (hbody : BodyOK K) (hnat : NatOK K) : ∀ fuel, RunOK K (runI K fuel)
  | 0 => fun fid n k E H c E' H' c' _ h => nomatch (show RO.no = RO.ok E' H' c' from h)
  | fuel + 1 => fun fid n k E H c E' H' c' hk h =>
    have ih := runI_ok hmix hbody hnat fuel
    run_step hmix ih (callF_ok hbody hnat ih) hk (show (stList k K).f (runI K fuel) fid E H c = _ from h)

/-- WHAT THE EVALUATOR SAYS OF A CALL. -/
theorem callI_ok (hmix : K.P.follows .mixedOrders = true) (hbody : BodyOK K) (hnat : NatOK K) (fuel : Nat) : CallOK K (callF K (runI K fuel)) := callF_ok hbody hnat (runI_ok hmix hbody hnat fuel)
end
end Go.Fs

namespace Go.Fs
open Go

theorem mapO_get {α β : Type} {f : α → Option β} : ∀ {l : List α} {l' : List β}, mapO f l = some l' → l'.length = l.length ∧ ∀ (i : Nat) (d : α) (d' : β), i < l.length → f (l.getD i d) = some (l'.getD i d')
  | [], l', h => by cases (show some [] = some l' from h); exact ⟨rfl, fun i d d' hi => by simp at hi⟩
  | x :: l, l', h => by
    obtain ⟨y, hy, h⟩ := osel (show @Option.rec _ (fun _ => Option (List β)) none (fun y => consO y (mapO f l)) (f x) = some l' from h)
    obtain ⟨m, hm, h⟩ := osel (show @Option.rec _ (fun _ => Option (List β)) none (fun l => some (y :: l)) (mapO f l) = some l' from h)
    cases h
    obtain ⟨h1, h2⟩ := mapO_get hm
    refine ⟨by simp [h1], fun i d d' hi => ?_⟩
    cases i with
    | zero => simpa using hy
    | succ i => simpa using h2 i d d' (by simpa using hi)

theorem wrapO_inv {f : List FV → FV} {q : Option (List FV)} {y : FV} (h : wrapO f q = some y) : ∃ cs, q = some cs ∧ y = f cs := by
  obtain ⟨cs, h1, h2⟩ := osel (show @Option.rec _ (fun _ => Option FV) none (fun cs => some (f cs)) q = some y from h)
  cases h2; exact ⟨cs, h1, rfl⟩
theorem wrapE_inv {f : List (List FV) → FV} {q : Option (List (List FV))} {y : FV} (h : wrapE f q = some y) : ∃ cs, q = some cs ∧ y = f cs := by
  obtain ⟨cs, h1, h2⟩ := osel (show @Option.rec _ (fun _ => Option FV) none (fun cs => some (f cs)) q = some y from h)
  cases h2; exact ⟨cs, h1, rfl⟩

/-- What is said of each element is said of all. -/
theorem VRs.conv {Z Z' : Ctx} {cs ds : List FV} {vs : Nat → Value} (hl : ds.length = cs.length) (h : ∀ i, i < cs.length → VR Z (cs.getD i .und) (vs i)) (hc : ∀ i u, i < cs.length → VR Z (cs.getD i .und) u → VR Z' (ds.getD i .und) u) :
    ∀ i, i < ds.length → VR Z' (ds.getD i .und) (vs i) := fun i hi => hc i _ (by omega) (h i (by omega))

section
variable {Z : Ctx} {w : World} {F : Heap} {H : HT}

/-- A value with frozen rows is the plain one, too. -/
theorem thaw_ok (hok : HeapOK Z w (toL H ++ F)) : ∀ (n : Nat) (x y : FV) (v : Value), thaw H n x = some y → VR Z x v → VR Z y v
  | 0, x, y, v, h, _ => nomatch (show none = some y from h)
  | n + 1, x, y, v, h, hv => by
    have ih := thaw_ok hok n
    replace h : thawS H (thaw H n) x = some y := h
    have lst : ∀ {cs ds : List FV}, mapO (thaw H n) cs = some ds → ds.length = cs.length ∧ ∀ i u, i < cs.length → VR Z (cs.getD i .und) u → VR Z (ds.getD i .und) u := fun {cs ds} h => by
      obtain ⟨h1, h2⟩ := mapO_get h
      exact ⟨h1, fun i u hi hu => ih _ _ _ (h2 i .und .und hi) hu⟩
    have lst2 : ∀ {es fs : List (List FV)}, mapO (mapO (thaw H n)) es = some fs → fs.length = es.length ∧ (∀ i, i < es.length → (fs.getD i []).length = (es.getD i []).length) ∧ ∀ i j u, i < es.length → j < (es.getD i []).length → VR Z ((es.getD i []).getD j .und) u → VR Z ((fs.getD i []).getD j .und) u := fun {es fs} h => by
      obtain ⟨h1, h2⟩ := mapO_get h
      exact ⟨h1, fun i hi => (lst (h2 i [] [] hi)).1, fun i j u hi hj hu => (lst (h2 i [] [] hi)).2 j u hj hu⟩
    have len2 : ∀ {es fs : List (List FV)} {sz : Nat}, fs.length = es.length → (∀ i, i < es.length → (fs.getD i []).length = (es.getD i []).length) → (∀ e, e ∈ es → e.length = sz) → ∀ e, e ∈ fs → e.length = sz := fun {es fs sz} h1 h2 h3 e he => by
      obtain ⟨i, hi, rfl⟩ := List.getElem_of_mem he
      have e1 : fs.getD i [] = fs[i] := by simp [List.getD, hi]
      rw [← e1, h2 i (by omega)]
      exact h3 _ (getD_mem (by omega))
    cases x <;> first | (cases (show some _ = some y from h); exact hv) | exact nomatch (show none = some y from h) | skip
    · obtain ⟨ds, h1, rfl⟩ := wrapO_inv (show wrapO .pp (mapO (thaw H n) _) = some y from h)
      obtain ⟨h2, h3⟩ := lst h1
      cases hv with
      | pp cs b o vs hc hvv => exact .pp ds b o vs (fun i hi => hc i (by omega)) (VRs.conv h2 hvv h3)
    · rename_i sz es
      obtain ⟨fs, h1, rfl⟩ := wrapE_inv (show wrapE (.sl sz) (mapO (mapO (thaw H n)) es) = some y from h)
      obtain ⟨h2, h3, h4⟩ := lst2 h1
      cases hv with
      | sl _ _ b o vs cap hz hc hvv hcap hb =>
        have key := VR.sl (Z := Z) sz fs b o vs cap (len2 h2 h3 hz) (fun i hi => hc i (by rw [← h2]; exact hi)) (fun i j hi hj => by
          have hi' : i < es.length := by omega
          exact h4 i j _ hi' (by rw [hz _ (getD_mem hi')]; exact hj) (hvv i j hi' hj)) (by omega) (by omega)
        rw [h2] at key
        exact key
      | slN => cases fs with | nil => exact .slN sz | cons a r => simp at h2
      | slN' _ a => cases fs with | nil => exact .slN' sz a | cons b r => simp at h2
    · rename_i sz es
      obtain ⟨fs, h1, rfl⟩ := wrapE_inv (show wrapE (.slx sz) (mapO (mapO (thaw H n)) es) = some y from h)
      obtain ⟨h2, h3, h4⟩ := lst2 h1
      cases hv with
      | slx _ _ b o vs hz hc hvv hb =>
        have key := VR.slx (Z := Z) sz fs b o vs (len2 h2 h3 hz) (fun i hi => hc i (by rw [← h2]; exact hi)) (fun i j hi hj => by
          have hi' : i < es.length := by omega
          exact h4 i j _ hi' (by rw [hz _ (getD_mem hi')]; exact hj) (hvv i j hi' hj)) (by omega)
        rw [h2] at key
        exact key
      | slxN _ a => cases fs with | nil => exact .slxN sz a | cons b r => simp at h2
    · rename_i sz τ off m
      obtain ⟨fs, h1, rfl⟩ := wrapE_inv (show wrapE (.sl sz) (mapEs (thaw H n) (frozen2 sz off m (lkH τ H))) = some y from h)
      obtain ⟨es0, h5, h6⟩ := osel (show @Option.rec _ (fun _ => Option (List (List FV))) none (fun es => mapO (mapO (thaw H n)) es) (frozen2 sz off m (lkH τ H)) = some fs from h1)
      unfold frozen2 at h5
      obtain ⟨ob, hl, h5⟩ := osel h5
      cases ob <;> first | exact nomatch (show none = some es0 from h5) | skip
      rename_i s k es
      obtain ⟨c1, c2⟩ := bsel (show @Bool.rec (fun _ => Option (List (List FV))) none (some (tak m (drp off es))) (andB (Nat.beq s sz) (andB (Nat.beq k (len es)) (Nat.ble (Nat.add off m) (len es)))) = some es0 from h5)
      obtain ⟨c3, c4⟩ := andB_iff.1 c1
      obtain ⟨c4, c5⟩ := andB_iff.1 c4
      rw [len_eq] at c4 c5
      have e1 := Nat.eq_of_beq_eq_true c3
      have e2 := Nat.eq_of_beq_eq_true c4
      have hle : off + m ≤ es.length := Nat.le_of_ble_eq_true c5
      subst e1; subst e2
      rw [tak_eq, drp_eq] at c2
      cases c2
      obtain ⟨h2, h3, h4⟩ := lst2 h6
      have hl0 : ((es.drop off).take m).length = m := by simp; omega
      obtain ⟨R, hp⟩ := lkH_row hl
      have hobj := hok.obj _ (List.mem_append_left F (hp.mem_iff.2 List.mem_cons_self))
      rcases VR.rsl_inv hv with ⟨b, cap, rfl, hnm, hs, hc, hb⟩ | ⟨a0, rfl, hnm, rfl, rfl⟩
      · rcases hobj with ⟨hn1, _⟩ | ⟨c', hc', vs, tyy, frr, N, r1, r2, r3, r4, r5, r6, r7, r8, r9, r10, r11⟩
        · rw [hnm] at hn1; cases hn1
        · rw [hnm] at hc'; cases hc'
          have hz0 : ∀ e, e ∈ (es.drop off).take m → e.length = s := fun e he => r8 e (List.mem_of_mem_drop (List.mem_of_mem_take he))
          have hfl : fs.length = m := by omega
          have := VR.sl (Z := Z) s fs b (off * s) (fun i => vs.getD (off * s + i) undef) cap (len2 h2 h3 hz0)
            (fun i hi => by
              have h7 : (off + m) * s ≤ es.length * s := Nat.mul_le_mul_right s hle
              rw [Nat.add_mul] at h7
              rw [hfl] at hi
              exact r10 _ (by omega))
            (fun i j hi hj => by
              have hi' : i < ((es.drop off).take m).length := by omega
              refine h4 i j _ hi' (by rw [hz0 _ (getD_mem hi')]; exact hj) ?_
              have h8 := r11 (off + i) j (by omega) hj
              have e3 : ((es.drop off).take m).getD i [] = es.getD (off + i) [] := by simp [List.getD, show i < m by omega, List.getElem?_drop]
              have e4 : off * s + (i * s + j) = (off + i) * s + j := by rw [Nat.add_mul]; omega
              rw [e3, e4]; exact h8) (by omega) (by omega)
          rw [hfl] at this; exact this
      · have hf : fs = [] := List.eq_nil_of_length_eq_zero (by omega)
        subst hf
        exact .slN' s a0
    · obtain ⟨ds, h1, rfl⟩ := wrapO_inv (show wrapO (.fn _) (mapO (thaw H n) _) = some y from h)
      obtain ⟨h2, h3⟩ := lst h1
      cases hv with
      | fn f cs vs hl hvv => exact .fn _ ds vs (by omega) (VRs.conv h2 hvv h3)
    · obtain ⟨ds, h1, rfl⟩ := wrapO_inv (show wrapO (.mfn _) (mapO (thaw H n) _) = some y from h)
      obtain ⟨h2, h3⟩ := lst h1
      cases hv with
      | mfn f cs vs hl hvv => exact .mfn _ ds vs (by omega) (VRs.conv h2 hvv h3)
    · obtain ⟨ds, h1, rfl⟩ := wrapO_inv (show wrapO .agg (mapO (thaw H n) _) = some y from h)
      obtain ⟨h2, h3⟩ := lst h1
      cases hv with
      | agg cs vs hl hvv => exact .agg ds vs (by omega) (VRs.conv h2 hvv h3)
    · obtain ⟨ds, h1, rfl⟩ := wrapO_inv (show wrapO .tup (mapO (thaw H n) _) = some y from h)
      obtain ⟨h2, h3⟩ := lst h1
      cases hv with
      | tup cs vs hl hvv => exact .tup ds vs (by omega) (VRs.conv h2 hvv h3)
end

/-- From one tree to another only rows were frozen. -/
def Frz (H H' : HT) : Prop := ∀ Z w F, HeapOK Z w (toL H ++ F) → ∃ Z', Ctx.le Z Z' ∧ Z'.nm = Z.nm ∧ HeapOK Z' w (toL H' ++ F)
theorem Frz.refl (H : HT) : Frz H H := fun Z _ _ h => ⟨Z, Ctx.le.refl Z, rfl, h⟩
theorem Frz.trans {A B C : HT} (h : Frz A B) (k : Frz B C) : Frz A C := fun Z w F hh => by
  obtain ⟨Z1, a1, a2, a3⟩ := h Z w F hh
  obtain ⟨Z2, b1, b2, b3⟩ := k Z1 w F a3
  exact ⟨Z2, a1.trans b1, b2.trans a2, b3⟩

theorem Frz.one {τ s k : Nat} {es : List (List FV)} {H : HT} (hl : lkH τ H = some (.row s k es)) : Frz H (putH τ (.row s (len es) es) H) := fun Z w F hok => by
  obtain ⟨R, p1, p2, _⟩ := lkH_split hl
  have hL : HeapOK Z w ((τ, .row s k es) :: (R ++ F)) := by
    have := hok.perm (p1.append_right F)
    simpa using this
  rw [len_eq]
  have fin : ∀ Z', HeapOK Z' w ((τ, .row s es.length es) :: (R ++ F)) → HeapOK Z' w (toL (putH τ (.row s es.length es) H) ++ F) := fun Z' h => by
    refine h.perm ?_
    have := ((p2 (.row s es.length es)).append_right F).symm
    simpa using this
  rcases hL.obj _ List.mem_cons_self with ⟨hn, he, hk, hs⟩ | ⟨b, hn, _⟩
  · have hk2 : k = es.length := by rw [he, hk]; rfl
    rw [hk2] at hL
    exact ⟨Z, Ctx.le.refl Z, rfl, fin Z hL⟩
  · obtain ⟨Z', h1, h2, h3⟩ := RowRel.freeze hL hn
    exact ⟨Z', h1, h3, fin Z' h2⟩

theorem foldV_frz {f : FV → HT → HT} (hf : ∀ x H, Frz H (f x H)) : ∀ (l : List FV) (H : HT), Frz H (foldV f l H)
  | [], H => Frz.refl H
  | x :: l, H => (hf x H).trans (foldV_frz hf l (f x H))
theorem foldE_frz {f : FV → HT → HT} (hf : ∀ x H, Frz H (f x H)) : ∀ (l : List (List FV)) (H : HT), Frz H (foldE f l H)
  | [], H => Frz.refl H
  | x :: l, H => (foldV_frz hf x H).trans (foldE_frz hf l (foldV f x H))

theorem frz_ok : ∀ (n : Nat) (x : FV) (H : HT), Frz H (frz n x H)
  | 0, _, H => Frz.refl H
  | n + 1, x, H => by
    have ih := frz_ok n
    show Frz H (frzS (frz n) x H)
    cases x with
    | pp cs => exact foldV_frz ih cs H
    | sl sz es => exact foldE_frz ih es H
    | slx sz es => exact foldE_frz ih es H
    | fn f cs => exact foldV_frz ih cs H
    | mfn f cs => exact foldV_frz ih cs H
    | agg cs => exact foldV_frz ih cs H
    | tup cs => exact foldV_frz ih cs H
    | rsl sz τ off m =>
      show Frz H (frzR τ (frz n) (lkH τ H) H)
      cases hl : lkH τ H with
      | none => exact Frz.refl H
      | some ob =>
        cases ob with
        | row s k es => exact (Frz.one hl).trans (foldE_frz ih es _)
        | _ => exact Frz.refl H
    | _ => exact Frz.refl H

/-- A value that names nothing is the same under other names. -/
theorem VR.free {Z Z' : Ctx} (hc : ∀ b i v, Z.cell b i = some v → Z'.cell b i = some v) : ∀ (n : Nat) (x : FV) (v : Value), freeV n x = true → VR Z x v → VR Z' x v
  | 0, _, _, h, _ => nomatch (show false = true from h)
  | n + 1, x, v, h, hv => by
    have ih := VR.free hc n
    have h : freeS (freeV n) x = true := h
    have lst : ∀ {cs : List FV}, allB (freeV n) cs = true → ∀ i u, i < cs.length → VR Z (cs.getD i .und) u → VR Z' (cs.getD i .und) u := fun {cs} h i u hi hu => by
      rw [allB_eq] at h
      exact ih _ _ (List.all_eq_true.1 h _ (getD_mem hi)) hu
    have lst2 : ∀ {es : List (List FV)}, allB (allB (freeV n)) es = true → ∀ i j u, i < es.length → j < (es.getD i []).length → VR Z ((es.getD i []).getD j .und) u → VR Z' ((es.getD i []).getD j .und) u := fun {es} h i j u hi hj hu => by
      rw [allB_eq] at h
      exact lst (List.all_eq_true.1 h _ (getD_mem hi)) j u hj hu
    cases hv with
    | und v => exact .und v
    | bool b => exact .bool b
    | int k m hk => exact .int k m hk
    | str s hs => exact .str s hs
    | ptrN => exact .ptrN
    | ptr b o => exact .ptr b o
    | pp cs b o vs h1 h2 => exact .pp cs b o vs (fun i hi => hc _ _ _ (h1 i hi)) fun i hi => lst h i _ hi (h2 i hi)
    | sl sz es b o vs cap hz h1 h2 h3 h4 => exact .sl sz es b o vs cap hz (fun i hi => hc _ _ _ (h1 i hi)) (fun i j hi hj => lst2 h i j _ hi (by rw [hz _ (getD_mem hi)]; exact hj) (h2 i j hi hj)) h3 h4
    | slN sz => exact .slN sz
    | slN' sz a => exact .slN' sz a
    | slx sz es b o vs hz h1 h2 h4 => exact .slx sz es b o vs hz (fun i hi => hc _ _ _ (h1 i hi)) (fun i j hi hj => lst2 h i j _ hi (by rw [hz _ (getD_mem hi)]; exact hj) (h2 i j hi hj)) h4
    | slxN sz a => exact .slxN sz a
    | nilsl => exact .nilsl
    | rsl sz t b off len cap hn hs hl hb => exact nomatch (show false = true from h)
    | rsl0 sz t a hn => exact nomatch (show false = true from h)
    | rp sz t i j b hn => exact nomatch (show false = true from h)
    | mpN => exact .mpN
    | mp r => exact .mp r
    | rmp t b hn => exact nomatch (show false = true from h)
    | fn f cs vs hl h2 => exact .fn f cs vs hl fun i hi => lst h i _ hi (h2 i hi)
    | mfn f cs vs hl h2 => exact .mfn f cs vs hl fun i hi => lst h i _ hi (h2 i hi)
    | nilFn => exact .nilFn
    | agg cs vs hl h2 => exact .agg cs vs hl fun i hi => lst h i _ hi (h2 i hi)
    | tup cs vs hl h2 => exact .tup cs vs hl fun i hi => lst h i _ hi (h2 i hi)
    | val v => exact .val v
end Go.Fs

namespace Go.Fs
open Go

/-- Names forgotten. -/
def Ctx.bare (Z : Ctx) : Ctx := { Z with nm := fun _ => none }
/-- Names as in another. -/
def Ctx.named (Z' Z : Ctx) : Ctx := { Z' with nm := Z.nm }

theorem Ctx.le_named {Z Z' : Ctx} (h : Ctx.le Z.bare Z') : Ctx.le Z (Z'.named Z) := ⟨h.cell, h.size, fun _ _ h => h, h.old, h.os, h.out, h.tape⟩

theorem blkOf_named {Z Z' : Ctx} (p : Nat × FObj) : blkOf (Z'.named Z) p = blkOf Z p := by
  obtain ⟨t, o⟩ := p
  cases o <;> rfl

/-- What an entry's block holds, taken as it is. -/
def hideE (Z : Ctx) (w : World) (p : Nat × FObj) : Option (Nat × FObj) := (blkOf Z p).bind fun b => (w.heap[b]?).map fun o => (b, .raw o (Z.cell b))

theorem hideE_blk {Z : Ctx} {w : World} {L : Heap} (h : HeapOK Z w L) {p : Nat × FObj} (hm : p ∈ L) : (hideE Z w p).bind (blkOf Z.bare) = blkOf Z p := by
  unfold hideE
  cases hb : blkOf Z p with
  | none => rfl
  | some b =>
    have hlt := h.lt hm hb
    simp [hlt, blkOf]

theorem HeapOK.hide {Z : Ctx} {w : World} {L : Heap} (h : HeapOK Z w L) : HeapOK Z.bare w (L.filterMap (hideE Z w)) := by
  refine ⟨?_, fun q hq => ?_, fun q b hq hb => ?_, h.cell, h.size, fun _ _ _ => trivial, ⟨0, fun _ _ => rfl⟩, h.old, h.os, h.out, h.tape⟩
  · rw [List.filterMap_filterMap, filterMap_congr' (g := blkOf Z) (fun p hp => hideE_blk h hp)]
    exact h.nodup
  · obtain ⟨p, hp, e⟩ := List.mem_filterMap.1 hq
    unfold hideE at e
    cases hb : blkOf Z p with
    | none => rw [hb] at e; cases e
    | some b =>
      rw [hb] at e
      cases ho : w.heap[b]? with
      | none => simp [ho] at e
      | some o =>
        simp [ho] at e
        subst e
        show ObjRel Z.bare _ _
        exact ⟨by simp [blkOf, ho], fun _ => rfl⟩
  · obtain ⟨p, hp, e⟩ := List.mem_filterMap.1 hq
    have h1 := hideE_blk h hp
    rw [e] at h1
    have h2 : blkOf Z p = some b := by rw [← h1]; exact hb
    exact h.notOld p b hp h2

theorem HeapOK.unhide {Z Z' : Ctx} {w w' : World} {L : Heap} (h : HeapOK Z w L) (hz : Ctx.le Z.bare Z') (h' : HeapOK Z' w' (L.filterMap (hideE Z w))) : HeapOK (Z'.named Z) w' L := by
  have hle := Ctx.le_named hz
  -- the block of an entry
  have key : ∀ p b, p ∈ L → blkOf Z p = some b → ∃ o, w.heap[b]? = some o ∧ w'.heap[b]? = some o ∧ (∀ i, Z'.cell b i = Z.cell b i) ∧ Z'.old b = none := fun p b hp hb => by
    have hlt := h.lt hp hb
    have ho : w.heap[b]? = some w.heap[b] := by simp [hlt]
    have hm : (b, FObj.raw w.heap[b] (Z.cell b)) ∈ L.filterMap (hideE Z w) := List.mem_filterMap.2 ⟨p, hp, by unfold hideE; rw [hb]; simp [hlt]⟩
    have h1 := h'.obj _ hm
    have h2 := h'.notOld _ b hm rfl
    obtain ⟨e1, e2⟩ := h1
    have e1 : w'.heap[b]? = some w.heap[b] := by simpa [blkOf] using e1
    exact ⟨_, ho, e1, e2, h2⟩
  refine ⟨?_, fun p hp => ?_, fun p b hp hb => ?_, h'.cell, h'.size, fun _ _ _ => trivial, h.fresh, h'.old, h'.os, h'.out, h'.tape⟩
  · rw [filterMap_congr' (g := blkOf Z) (fun p _ => blkOf_named p)]
    exact h.nodup
  · have hq := h.obj p hp
    unfold ObjAt at hq ⊢
    rw [blkOf_named]
    cases hb : blkOf Z p with
    | none =>
      rw [hb] at hq
      exact ObjRel.mono hle (fun b i hb' => by rw [hb] at hb'; cases hb') hq
    | some b =>
      rw [hb] at hq
      obtain ⟨o, e1, e2, e3, _⟩ := key p b hp hb
      have hq : ObjRel Z w.heap[b]? p := hq
      show ObjRel (Z'.named Z) w'.heap[b]? p
      rw [e2]
      rw [e1] at hq
      exact ObjRel.mono hle (fun b' i hb' => by rw [hb] at hb'; cases hb'; exact e3 i) hq
  · rw [blkOf_named] at hb
    obtain ⟨_, _, _, _, e⟩ := key p b hp hb
    exact e

/-- A call that only computes: values without names, no trace. -/
def PureC (K : Cfg) (f : FuncId) (ys : List FV) (x : FV) : Prop :=
  Ent K.P f ∧ ∀ (Z : Ctx) (w : World) (F : Heap) (vs : Array Value), VRs Z ys vs → HeapOK Z w F → GOK K Z →
    Calls K.P f vs w fun e w' => ∃ v Z', e = .returned v ∧ Ctx.le Z Z' ∧ HeapOK Z' w' F ∧ Z'.nm = Z.nm ∧ VR Z' x v

/-- The known globals name nothing. -/
def GFree (K : Cfg) : Prop := ∀ g cs, K.G g = some cs → ∃ n, freeV n (.pp cs) = true

theorem PureC.of_CallN {K : Cfg} (hG : GFree K) {f : FuncId} {ys : List FV} {x y : FV} {c : Nat} {H : HT} {n m : Nat} (h : CallN K f ys [] 0 c x (toL H)) (hys : ∀ z, z ∈ ys → freeV n z = true) (ht : thaw (frz m x H) m x = some y) (hy : freeV n y = true) : PureC K f ys y := by
  refine ⟨h.1, fun Z w F vs hvs hok hg => ?_⟩
  have hg' : GOK K Z.bare := fun g cs hgc => by
    obtain ⟨k, hk⟩ := hG g cs hgc
    exact VR.free (Z := Z) (Z' := Z.bare) (fun _ _ _ h => h) k _ _ hk (hg g cs hgc)
  have hvs' : VRs Z.bare ys vs := ⟨hvs.len, fun i hi => VR.free (Z := Z) (Z' := Z.bare) (fun _ _ _ h => h) n _ _ (hys _ (getD_mem hi)) (hvs.get i hi)⟩
  refine (h.2 Z.bare w (F.filterMap (hideE Z w)) vs hvs' (by simpa using hok.hide) (fun _ _ => rfl) hg').mono fun e w' ⟨v, Z', he, hz, hh, _, hv⟩ => ?_
  obtain ⟨Z2, a1, a2, a3⟩ := frz_ok m x H Z' w' _ hh
  have hv2 := thaw_ok a3 m x y v ht (hv.mono a1)
  have hz2 : Ctx.le Z.bare Z2 := hz.trans a1
  have hF : HeapOK Z2 w' (F.filterMap (hideE Z w)) := a3.sub (List.sublist_append_right _ _)
  exact ⟨v, Z2.named Z, he, Ctx.le_named hz2, hok.unhide hz2 hF, rfl, VR.free (Z := Z2) (Z' := Z2.named Z) (fun _ _ _ h => h) n _ _ hy hv2⟩

/-- A piece: what a run by itself says of a call. -/
theorem PureC.of_run {K : Cfg} (hG : GFree K) {call : CallT} (hcall : CallOK K call) {f : FuncId} {ys : List FV} {y : FV} {n : Nat} (h : pureO (call f ys H0T 0) = some y) (hys : allB (freeV n) ys = true) (hy : freeV n y = true) : PureC K f ys y := by
  cases hc : call f ys H0T 0 with
  | no => rw [hc] at h; exact nomatch (show none = some y from h)
  | ok x H c =>
    rw [hc] at h
    have h : thaw (frz 100 x H) 100 x = some y := h
    obtain ⟨_, h2⟩ := hcall _ _ _ _ _ _ _ hc
    rw [toL_H0] at h2
    rw [allB_eq] at hys
    exact PureC.of_CallN hG h2 (fun z hz => List.all_eq_true.1 hys z hz) h hy

/-- What a table says is so. -/
def TabOK (K : Cfg) (t : List Ent3) : Prop := ∀ e, e ∈ t → PureC K e.f e.args e.res

theorem tabGo_inv {f : Nat} {ys : List FV} : ∀ {t : List Ent3} {x : FV}, tabGo f ys t = some x → ∃ e, e ∈ t ∧ e.f = f ∧ e.args = ys ∧ e.res = x
  | [], x, h => nomatch (show none = some x from h)
  | e :: t, x, h => by
    have h : @Bool.rec (fun _ => Option FV) (tabGo f ys t) (some e.res) (andB (Nat.beq e.f f) (same1 (sameV 100) e.args ys)) = some x := h
    cases hb : andB (Nat.beq e.f f) (same1 (sameV 100) e.args ys) with
    | false =>
      rw [hb] at h
      obtain ⟨e', h1, h2⟩ := tabGo_inv (t := t) h
      exact ⟨e', List.mem_cons_of_mem _ h1, h2⟩
    | true =>
      rw [hb] at h
      cases (show some e.res = some x from h)
      obtain ⟨b1, b2⟩ := andB_iff.1 hb
      exact ⟨e, List.mem_cons_self, Nat.eq_of_beq_eq_true b1, same1_ok (sameV_ok 100) _ _ b2, rfl⟩

theorem tabN_ok {K : Cfg} {t : List Ent3} (ht : TabOK K t) {f : Nat} {args : List FV} {H : HT} {c : Nat} {x : FV} {H' : HT} {c' : Nat} (h : tabN f t args H c = .ok x H' c') : c ≤ c' ∧ CallN K f args (toL H) c c' x (toL H') := by
  have h : tabO f t (foldV (frz 100) args H) c (mapO (thaw (foldV (frz 100) args H) 100) args) = .ok x H' c' := h
  obtain ⟨ys, hy, h⟩ := oselO (show @Option.rec _ (fun _ => Out) .no (fun ys => outO (tabGo f ys t) (foldV (frz 100) args H) c) (mapO (thaw (foldV (frz 100) args H) 100) args) = _ from h)
  obtain ⟨h1, rfl, rfl⟩ := outO_inv h
  obtain ⟨e, he, rfl, rfl, rfl⟩ := tabGo_inv h1
  obtain ⟨hent, hcall⟩ := ht e he
  refine ⟨Nat.le_refl _, hent, fun Z w F vs hvs hok _ hg => ?_⟩
  obtain ⟨Z1, a1, a2, a3⟩ := foldV_frz (frz_ok 100) args H Z w F hok
  obtain ⟨hl, hm⟩ := mapO_get hy
  have hvs1 : VRs Z1 e.args vs := ⟨by rw [hl]; exact hvs.len, fun i hi => thaw_ok a3 100 _ _ _ (hm i .und .und (by omega)) ((hvs.get i (by omega)).mono a1)⟩
  exact (hcall Z1 w _ vs hvs1 a3 (hg.mono a1)).mono fun e' w' ⟨v, Z', h2, h3, h4, h5, h6⟩ => ⟨v, Z', h2, a1.trans h3, h4, fun t _ => by rw [h5, a2], h6⟩
end Go.Fs

namespace Go.Fs
open Go

structure Ent4 where
  f : Nat
  args : List FV
  L : List (Nat × FObj)
  c : Nat
  x : FV
  L' : List (Nat × FObj)
  c' : Nat

noncomputable section
def sameP (a : List (FV × FV)) : List (FV × FV) → Bool := @List.rec (FV × FV) (fun _ => List (FV × FV) → Bool) (fun b => @List.rec (FV × FV) (fun _ => Bool) true (fun _ _ _ => false) b)
  (fun p _ ih b => @List.rec (FV × FV) (fun _ => Bool) false (fun q t _ => andB (sameV 100 p.1 q.1) (andB (sameV 100 p.2 q.2) (ih t))) b) a
def sameO (a b : FObj) : Bool := @FObj.rec (fun _ => Bool) (fun _ => false)
  (fun s k es => @FObj.rec (fun _ => Bool) (fun _ => false) (fun s' k' es' => andB (Nat.beq s s') (andB (Nat.beq k k') (same2L (sameV 100) es es'))) (fun _ => false) (fun _ _ => false) b)
  (fun kvs => @FObj.rec (fun _ => Bool) (fun _ => false) (fun _ _ _ => false) (fun kvs' => sameP kvs kvs') (fun _ _ => false) b) (fun _ _ => false) a
/-- The entries taken out. -/
def takeO (L : List (Nat × FObj)) : HT → Option HT := @List.rec (Nat × FObj) (fun _ => HT → Option HT) (fun H => some H)
  (fun p _ ih H => @Option.rec FObj (fun _ => Option HT) none (fun o => @Bool.rec (fun _ => Option HT) none (ih (delH p.1 H)) (sameO o p.2)) (lkH p.1 H)) L
def putO (L : List (Nat × FObj)) : HT → Option HT := @List.rec (Nat × FObj) (fun _ => HT → Option HT) (fun H => some H)
  (fun p _ ih H => @Bool.rec (fun _ => Option HT) none (ih (putH p.1 p.2 H)) (freeH p.1 H)) L
def imp1 (e : Ent4) (H : HT) : Out := @Option.rec HT (fun _ => Out) .no (fun H1 => @Option.rec HT (fun _ => Out) .no (fun H2 => .ok e.x H2 e.c') (putO e.L' H1)) (takeO e.L H)
def impGo (f : Nat) (args : List FV) (c : Nat) (u : List Ent4) : Option Ent4 := @List.rec Ent4 (fun _ => Option Ent4) none
  (fun e _ ih => @Bool.rec (fun _ => Option Ent4) ih (some e) (andB (Nat.beq e.c c) (andB (Nat.beq e.f f) (same1 (sameV 100) e.args args)))) u
def impN (f : Nat) (u : List Ent4) (args : List FV) (H : HT) (c : Nat) : Out := @Option.rec Ent4 (fun _ => Out) .no (fun e => imp1 e H) (impGo f args c u)
def chk4 (call : CallT) (e : Ent4) : Bool := @Option.rec HT (fun _ => Bool) false (fun HL => @Out.rec (fun _ => Bool) false
  (fun x H' c' => andB (sameV 100 x e.x) (andB (Nat.beq c' e.c') (@Option.rec HT (fun _ => Bool) false (fun _ => true) (takeO e.L' H')))) (call e.f e.args HL e.c)) (putO e.L H0T)
end

theorem sameP_ok : ∀ (a b : List (FV × FV)), sameP a b = true → a = b
  | [], [], _ => rfl
  | [], _ :: _, h => nomatch (show false = true from h)
  | _ :: _, [], h => nomatch (show false = true from h)
  | (p1, p2) :: a, (q1, q2) :: b, h => by
    have h : andB (sameV 100 p1 q1) (andB (sameV 100 p2 q2) (sameP a b)) = true := h
    obtain ⟨h1, h2⟩ := andB_iff.1 h
    obtain ⟨h2, h3⟩ := andB_iff.1 h2
    rw [sameV_ok 100 _ _ h1, sameV_ok 100 _ _ h2, sameP_ok a b h3]
theorem sameO_ok {a b : FObj} (h : sameO a b = true) : a = b := by
  cases a <;> cases b <;> first | exact nomatch (show false = true from h) | skip
  · obtain ⟨h1, h2⟩ := andB_iff.1 (show andB (Nat.beq _ _) (andB (Nat.beq _ _) (same2L (sameV 100) _ _)) = true from h)
    obtain ⟨h2, h3⟩ := andB_iff.1 h2
    rw [Nat.eq_of_beq_eq_true h1, Nat.eq_of_beq_eq_true h2, same2L_ok (sameV_ok 100) _ _ h3]
  · rw [sameP_ok _ _ h]

theorem takeO_ok (L : List (Nat × FObj)) : ∀ (H H1 : HT), takeO L H = some H1 → (toL H).Perm (L ++ toL H1) := by
  induction L with
  | nil =>
    intro H H1 h
    have e := Option.some.inj (show some H = some H1 from h)
    rw [e, List.nil_append]
  | cons p L ih =>
    intro H H1 h
    have h : @Option.rec FObj (fun _ => Option HT) none (fun o => @Bool.rec (fun _ => Option HT) none (takeO L (delH p.1 H)) (sameO o p.2)) (lkH p.1 H) = some H1 := h
    obtain ⟨o, ho, h⟩ := osel h
    obtain ⟨hs, h⟩ := bsel h
    rw [sameO_ok hs] at ho
    obtain ⟨R, p1, _, p2⟩ := lkH_split ho
    have q := ih _ _ h
    exact p1.trans ((p2.symm.trans q).cons _)
theorem putO_ok (L : List (Nat × FObj)) : ∀ (H H1 : HT), putO L H = some H1 → (toL H1).Perm (L ++ toL H) := by
  induction L with
  | nil =>
    intro H H1 h
    have e := Option.some.inj (show some H = some H1 from h)
    rw [e, List.nil_append]
  | cons p L ih =>
    intro H H1 h
    have h : @Bool.rec (fun _ => Option HT) none (putO L (putH p.1 p.2 H)) (freeH p.1 H) = some H1 := h
    obtain ⟨hf, h⟩ := bsel h
    have q := ih _ _ h
    have q2 := (freeH_put hf p.2).append_left L
    exact q.trans (q2.trans List.perm_middle)

section
variable {K : Cfg}
theorem CallN.frame {f : FuncId} {args : List FV} {L L' M M' R : Heap} {c c' : Nat} {x : FV} (h : CallN K f args L c c' x L') (p : M.Perm (L ++ R)) (p' : M'.Perm (L' ++ R)) : CallN K f args M c c' x M' := by
  refine ⟨h.1, fun Z w F vs hv hok hf hg => ?_⟩
  refine (h.2 Z w (R ++ F) vs hv ?_ hf hg).mono fun e w' ⟨v, Z', h1, h2, h3, h4, h5⟩ => ⟨v, Z', h1, h2, ?_, h4, h5⟩
  · refine hok.perm ?_
    have := p.append_right F
    rwa [List.append_assoc] at this
  · refine h3.perm ?_
    have := p'.symm.append_right F
    rwa [List.append_assoc] at this
theorem CallN.less {f : FuncId} {args : List FV} {L L' M R : Heap} {c c' : Nat} {x : FV} (h : CallN K f args L c c' x M) (p : M.Perm (L' ++ R)) : CallN K f args L c c' x L' := by
  refine ⟨h.1, fun Z w F vs hv hok hf hg => ?_⟩
  refine (h.2 Z w F vs hv hok hf hg).mono fun e w' ⟨v, Z', h1, h2, h3, h4, h5⟩ => ⟨v, Z', h1, h2, ?_, h4, h5⟩
  refine (h3.perm (p.append_right F)).sub ?_
  exact (List.sublist_append_left L' R).append_right F

/-- What a table of turning calls says is so. -/
def Tab4 (K : Cfg) (u : List Ent4) : Prop := ∀ e, e ∈ u → e.c ≤ e.c' ∧ CallN K e.f e.args e.L e.c e.c' e.x e.L'

theorem impGo_inv {f : Nat} {args : List FV} {c : Nat} : ∀ {u : List Ent4} {e : Ent4}, impGo f args c u = some e → e ∈ u ∧ e.f = f ∧ e.args = args ∧ e.c = c
  | [], e, h => nomatch (show none = some e from h)
  | d :: u, e, h => by
    have h : @Bool.rec (fun _ => Option Ent4) (impGo f args c u) (some d) (andB (Nat.beq d.c c) (andB (Nat.beq d.f f) (same1 (sameV 100) d.args args))) = some e := h
    cases hb : andB (Nat.beq d.c c) (andB (Nat.beq d.f f) (same1 (sameV 100) d.args args)) with
    | false =>
      rw [hb] at h
      obtain ⟨h1, h2⟩ := impGo_inv (u := u) h
      exact ⟨List.mem_cons_of_mem _ h1, h2⟩
    | true =>
      rw [hb] at h
      cases (show some d = some e from h)
      obtain ⟨b1, b2⟩ := andB_iff.1 hb
      obtain ⟨b2, b3⟩ := andB_iff.1 b2
      exact ⟨List.mem_cons_self, Nat.eq_of_beq_eq_true b2, same1_ok (sameV_ok 100) _ _ b3, Nat.eq_of_beq_eq_true b1⟩

theorem impN_ok {u : List Ent4} (hu : Tab4 K u) {f : Nat} {args : List FV} {H : HT} {c : Nat} {x : FV} {H' : HT} {c' : Nat} (h : impN f u args H c = .ok x H' c') : c ≤ c' ∧ CallN K f args (toL H) c c' x (toL H') := by
  obtain ⟨e, he, k⟩ := oselO (show @Option.rec Ent4 (fun _ => Out) .no (fun e => imp1 e H) (impGo f args c u) = _ from h)
  clear h
  obtain ⟨hm, e1, e2, e3⟩ := impGo_inv he
  obtain ⟨H1, h1, k⟩ := oselO (show @Option.rec HT (fun _ => Out) .no (fun H1 => @Option.rec HT (fun _ => Out) .no (fun H2 => .ok e.x H2 e.c') (putO e.L' H1)) (takeO e.L H) = _ from k)
  obtain ⟨H2, h2, k⟩ := oselO k
  obtain ⟨rfl, rfl, rfl⟩ := Out.ok.inj k
  obtain ⟨h3, h4⟩ := hu e hm
  subst e1; subst e2; subst e3
  exact ⟨h3, h4.frame (takeO_ok _ _ _ h1) (putO_ok _ _ _ h2)⟩

theorem chk4_ok {call : CallT} (hcall : CallOK K call) {e : Ent4} (h : chk4 call e = true) : e.c ≤ e.c' ∧ CallN K e.f e.args e.L e.c e.c' e.x e.L' := by
  unfold chk4 at h
  cases h1 : putO e.L H0T with
  | none => rw [h1] at h; exact nomatch (show false = true from h)
  | some HL =>
    rw [h1] at h
    cases h2 : call e.f e.args HL e.c with
    | no =>
      have h : @Out.rec (fun _ => Bool) false (fun x H' c' => andB (sameV 100 x e.x) (andB (Nat.beq c' e.c') (@Option.rec HT (fun _ => Bool) false (fun _ => true) (takeO e.L' H')))) (call e.f e.args HL e.c) = true := h
      rw [h2] at h; exact nomatch (show false = true from h)
    | ok x H' c' =>
      have h : @Out.rec (fun _ => Bool) false (fun x H' c' => andB (sameV 100 x e.x) (andB (Nat.beq c' e.c') (@Option.rec HT (fun _ => Bool) false (fun _ => true) (takeO e.L' H')))) (call e.f e.args HL e.c) = true := h
      rw [h2] at h
      obtain ⟨b1, b2⟩ := andB_iff.1 (show andB (sameV 100 x e.x) (andB (Nat.beq c' e.c') (@Option.rec HT (fun _ => Bool) false (fun _ => true) (takeO e.L' H'))) = true from h)
      obtain ⟨b2, b3⟩ := andB_iff.1 b2
      have e1 := sameV_ok 100 _ _ b1
      have e2 := Nat.eq_of_beq_eq_true b2
      obtain ⟨h3, h4⟩ := hcall _ _ _ _ _ _ _ h2
      rw [e1, e2] at h4
      rw [e2] at h3
      cases h5 : takeO e.L' H' with
      | none => rw [h5] at b3; exact nomatch (show false = true from b3)
      | some H'' =>
        refine ⟨h3, CallN.less (R := toL H'') ?_ (takeO_ok _ _ _ h5)⟩
        have p1 := putO_ok _ _ _ h1
        rw [toL_H0, List.append_nil] at p1
        exact CallN.frame (R := []) h4 (by rw [List.append_nil]; exact p1.symm) (by rw [List.append_nil])
end
end Go.Fs

namespace Go.Fs
open Go

noncomputable section
def startsW (p : List UInt8) : List UInt8 → Bool := @List.rec UInt8 (fun _ => List UInt8 → Bool) (fun _ => true) (fun x _ ih l => @List.rec UInt8 (fun _ => Bool) false (fun y t _ => @Bool.rec (fun _ => Bool) false (ih t) (Nat.beq x.toNat y.toNat)) l) p
def findC (x : UInt8) (q : Option (List UInt8 × List UInt8)) : Option (List UInt8 × List UInt8) := @Option.rec (List UInt8 × List UInt8) (fun _ => Option (List UInt8 × List UInt8)) none (fun q => some (x :: q.1, q.2)) q
/-- What is before and behind the first instance. -/
def findS (p : List UInt8) (s : List UInt8) : Option (List UInt8 × List UInt8) := @List.rec UInt8 (fun _ => Option (List UInt8 × List UInt8)) (@Bool.rec (fun _ => Option (List UInt8 × List UInt8)) none (some ([], [])) (startsW p []))
  (fun x r ih => @Bool.rec (fun _ => Option (List UInt8 × List UInt8)) (findC x ih) (some ([], drp (len p) (x :: r))) (startsW p (x :: r))) s
def splitS (p : List UInt8) (f : Nat) : List UInt8 → List (List UInt8) := @Nat.rec (fun _ => List UInt8 → List (List UInt8)) (fun s => [s]) (fun _ ih s => @Option.rec (List UInt8 × List UInt8) (fun _ => List (List UInt8)) [s] (fun q => q.1 :: ih q.2) (findS p s)) f
def cmpS (a b : List UInt8) : Int := @Bool.rec (fun _ => Int) (@Bool.rec (fun _ => Int) 1 (.negSucc 0) (strLt a b)) 0 (strEq a b)
end

theorem beqU (x y : UInt8) : Nat.beq x.toNat y.toNat = (x == y) := by
  cases h : Nat.beq x.toNat y.toNat with
  | true =>
    have : x = y := UInt8.toNat_inj.1 ((beq_spec _ _).1 h)
    simp [this]
  | false =>
    have : x ≠ y := fun e => by rw [e, (beq_spec _ _).2 rfl] at h; cases h
    simp [this]

theorem startsW_eq : ∀ (p l : List UInt8), startsW p l = p.isPrefixOf l
  | [], l => by cases l <;> rfl
  | x :: p, [] => rfl
  | x :: p, y :: l => by
    show @Bool.rec (fun _ => Bool) false (startsW p l) (Nat.beq x.toNat y.toNat) = _
    rw [beqU, startsW_eq p l]
    simp only [List.isPrefixOf]
    cases x == y <;> rfl

theorem findS_cons (p : List UInt8) (x : UInt8) (r : List UInt8) : findS p (x :: r) = if p.isPrefixOf (x :: r) then some ([], (x :: r).drop p.length) else findC x (findS p r) := by
  show @Bool.rec (fun _ => Option (List UInt8 × List UInt8)) (findC x (findS p r)) (some ([], drp (len p) (x :: r))) (startsW p (x :: r)) = _
  rw [startsW_eq, drp_eq, len_eq]
  cases p.isPrefixOf (x :: r) <;> rfl

theorem findS_none {p : List UInt8} : ∀ {s : List UInt8}, findS p s = none → Lib.index s p = -1
  | [], h => by
    have h : @Bool.rec (fun _ => Option (List UInt8 × List UInt8)) none (some ([], [])) (startsW p []) = none := h
    rw [startsW_eq] at h
    cases p with
    | nil => exact nomatch (show some ([], []) = none from h)
    | cons a p => rfl
  | x :: r, h => by
    rw [findS_cons] at h
    split at h
    · cases h
    · rename_i hp
      cases hr : findS p r with
      | some q => rw [hr] at h; exact nomatch (show some _ = none from h)
      | none =>
        have := findS_none hr
        unfold Lib.index
        rw [if_neg hp, this]
        rfl

theorem findS_some {p : List UInt8} : ∀ {s : List UInt8} {q : List UInt8 × List UInt8}, findS p s = some q → ∃ i : Nat, Lib.index s p = i ∧ q.1 = s.take i ∧ q.2 = s.drop (i + p.length)
  | [], q, h => by
    have h : @Bool.rec (fun _ => Option (List UInt8 × List UInt8)) none (some ([], [])) (startsW p []) = some q := h
    rw [startsW_eq] at h
    cases p with
    | nil => cases (show some ([], []) = some q from h); exact ⟨0, rfl, rfl, rfl⟩
    | cons a p => exact nomatch (show none = some q from h)
  | x :: r, q, h => by
    rw [findS_cons] at h
    split at h
    · rename_i hp
      cases h
      refine ⟨0, ?_, rfl, by simp⟩
      unfold Lib.index
      rw [if_pos hp]; rfl
    · rename_i hp
      cases hr : findS p r with
      | none => rw [hr] at h; exact nomatch (show none = some q from h)
      | some q' =>
        rw [hr] at h
        cases (show some (x :: q'.1, q'.2) = some q from h)
        obtain ⟨i, h1, h2, h3⟩ := findS_some hr
        refine ⟨i + 1, ?_, by simp [h2], by rw [h3]; simp [Nat.add_right_comm]⟩
        unfold Lib.index
        rw [if_neg hp, h1]
        have : ¬ ((i : Int) == -1) = true := by simp
        rw [if_neg this]
        simp

theorem cut_eq (s p : List UInt8) : Lib.cut s p = match findS p s with | some q => (q.1, q.2, true) | none => (s, [], false) := by
  unfold Lib.cut
  cases h : findS p s with
  | none => rw [findS_none h]; rfl
  | some q =>
    obtain ⟨i, h1, h2, h3⟩ := findS_some h
    rw [h1]
    simp [h2, h3]

theorem split_eq (p : List UInt8) : ∀ (f : Nat) (s : List UInt8), Lib.splitK p 0 (Lib.countFrom p f s) s = splitS p f s
  | 0, s => rfl
  | f + 1, s => by
    have e : splitS p (f + 1) s = match findS p s with | some q => q.1 :: splitS p f q.2 | none => [s] := by
      show @Option.rec (List UInt8 × List UInt8) (fun _ => List (List UInt8)) [s] (fun q => q.1 :: splitS p f q.2) (findS p s) = _
      cases findS p s <;> rfl
    rw [e]
    unfold Lib.countFrom
    cases h : findS p s with
    | none =>
      rw [findS_none h]; rfl
    | some q =>
      obtain ⟨i, h1, h2, h3⟩ := findS_some h
      have hne : ¬ ((i : Int) == -1) = true := by simp
      rw [h1, if_neg hne, Nat.add_comm 1]
      unfold Lib.splitK
      rw [h1, if_neg hne]
      simp only [Int.toNat_natCast, Nat.add_zero]
      rw [split_eq p f, ← h3, ← h2]

theorem cmpS_eq : ∀ (a b : List UInt8), cmpS a b = Lib.compareBytes a b
  | [], [] => rfl
  | [], y :: b => rfl
  | x :: a, [] => rfl
  | x :: a, y :: b => by
    have ih := cmpS_eq a b
    unfold cmpS at ih ⊢
    rw [strEq_eq, strLt_eq] at ih ⊢
    simp only [Lib.compareBytes, Op.bytesLess]
    by_cases h : x = y
    · subst h
      have hl : ¬ x < x := by simp
      rw [if_neg hl, if_neg hl, ← ih]
      simp [hl]
    · have hne : ¬ (x :: a = y :: b) := fun e => h (by injection e)
      have hd : decide (x :: a = y :: b) = false := by simp [h]
      have hb : (x == y) = false := by simp [h]
      rw [hd, hb]
      have hn : x.toNat ≠ y.toNat := fun e => h (UInt8.toNat_inj.1 e)
      by_cases hl : x < y
      · rw [if_pos hl]
        have : (decide (x < y) || (false && Op.bytesLess a b)) = true := by simp [hl]
        rw [this]
        rfl
      · have h2 : y < x := by
          rw [UInt8.lt_iff_toNat_lt] at hl ⊢
          omega
        rw [if_neg hl, if_pos h2]
        have : (decide (x < y) || (false && Op.bytesLess a b)) = false := by simp [hl]
        rw [this]
end Go.Fs

namespace Go.Fs
open Go

theorem HeapOK.below {Z : Ctx} {w w' : World} {L : Heap} (h : HeapOK Z w L) (hb : RowKit.Below w.heap.size w w') : HeapOK Z w' L := by
  refine ⟨h.nodup, fun p hm => ?_, h.notOld, fun b i v hv => ?_, fun b n hn => ?_, fun _ _ _ => trivial, h.fresh, fun b o ho => ?_, by rw [hb.os]; exact h.os, by rw [hb.output]; exact h.out, by rw [hb.tape]; exact h.tape⟩
  · have hq := h.obj p hm
    unfold ObjAt at hq ⊢
    cases hbk : blkOf Z p with
    | none => rw [hbk] at hq; exact hq
    | some b =>
      rw [hbk] at hq
      have hq : ObjRel Z w.heap[b]? p := hq
      show ObjRel Z w'.heap[b]? p
      rw [hb.block b (h.lt hm hbk)]; exact hq
  · have h1 := h.cell b i v hv
    rw [hb.cell (World.block_lt_of_cell? w ⟨b, i, none⟩ h1)]; exact h1
  · obtain ⟨vs, ty, fr, h1, h2⟩ := h.size b n hn
    exact ⟨vs, ty, fr, by rw [hb.block b (heap_lt h1)]; exact h1, h2⟩
  · have h1 := h.old b o ho
    rw [hb.block b (heap_lt h1)]; exact h1

section
variable {K : Cfg}

theorem CallN.below {f : FuncId} {args : List FV} {L : Heap} {c : Nat} {x : FV} (he : Ent K.P f)
    (h : ∀ Z w F vs, VRs Z args vs → HeapOK Z w (L ++ F) → GOK K Z → Calls K.P f vs w fun e w' => ∃ v, e = .returned v ∧ RowKit.Below w.heap.size w w' ∧ VR Z x v) : CallN K f args L c c x L :=
  ⟨he, fun Z w F vs hv hok _ hg => (h Z w F vs hv hok hg).mono fun _ _ ⟨v, h1, h2, h3⟩ => ⟨v, Z, h1, Ctx.le.refl Z, hok.below h2, Same.refl _ _, h3⟩⟩

theorem VRs.two {Z : Ctx} {a b : FV} {vs : Array Value} (h : VRs Z [a, b] vs) : ∃ u v, vs = #[u, v] ∧ VR Z a u ∧ VR Z b v := by
  have hl := h.len
  simp at hl
  have h0 := h.get 0 (by simp)
  have h1 := h.get 1 (by simp)
  refine ⟨vs[0]'(by omega), vs[1]'(by omega), ?_, by simpa [Array.getD, hl] using h0, by simpa [Array.getD, hl] using h1⟩
  apply Array.ext
  · simpa using hl
  · intro i hi1 hi2
    simp at hi2
    match i with
    | 0 => rfl
    | 1 => rfl
    | i + 2 => omega

theorem VRs.one' {Z : Ctx} {a : FV} {vs : Array Value} (h : VRs Z [a] vs) : ∃ u, vs = #[u] ∧ VR Z a u := by
  have hl := h.len
  simp at hl
  have h0 := h.get 0 (by simp)
  refine ⟨vs[0]'(by omega), ?_, by simpa [Array.getD, hl] using h0⟩
  apply Array.ext
  · simpa using hl
  · intro i hi1 hi2
    simp at hi2
    subst hi2; rfl

noncomputable section
/-- strings.Compare. -/
def natCmp (args : List FV) (H : HT) (c : Nat) : Out := match args with
  | [.str a, .str b] => .ok (.int .i64 (cmpS a b)) H c
  | _ => .no
def cutR (s : List UInt8) (q : Option (List UInt8 × List UInt8)) : FV := @Option.rec (List UInt8 × List UInt8) (fun _ => FV) (.tup [.str s, .str [], .bool false]) (fun q => .tup [.str q.1, .str q.2, .bool true]) q
/-- strings.Cut. -/
def natCut (args : List FV) (H : HT) (c : Nat) : Out := match args with
  | [.str s, .str p] => @Bool.rec (fun _ => Out) .no (.ok (cutR s (findS p s)) H c) (Nat.blt (len s) 4294967281)
  | _ => .no
def strL (l : List (List UInt8)) : List (List FV) := @List.rec (List UInt8) (fun _ => List (List FV)) [] (fun s _ ih => [.str s] :: ih) l
/-- strings.Split. -/
def natSplit (args : List FV) (H : HT) (c : Nat) : Out := match args with
  | [.str s, .str (a :: p)] => @Bool.rec (fun _ => Out) .no (.ok (.slx 1 (strL (splitS (a :: p) (Nat.succ (len s)) s))) H c) (Nat.blt (len s) 4294967281)
  | _ => .no
def digs2 (i : Nat) : List UInt8 := @Bool.rec (fun _ => List UInt8) [UInt8.ofNat (Nat.add 48 (Nat.div i 10)), UInt8.ofNat (Nat.add 48 (Nat.mod i 10))] [UInt8.ofNat (Nat.add 48 i)] (Nat.blt i 10)
/-- strconv.Itoa of small numbers. -/
def natItoa (args : List FV) (H : HT) (c : Nat) : Out := match args with
  | [.int .i64 (.ofNat i)] => @Bool.rec (fun _ => Out) .no (.ok (.str (digs2 i)) H c) (Nat.blt i 100)
  | _ => .no
def joinS (p : List UInt8) (l : List (List UInt8)) : List UInt8 := @List.rec (List UInt8) (fun _ => List UInt8) [] (fun x r ih => @List.rec (List UInt8) (fun _ => List UInt8) x (fun _ _ _ => app x (app p ih)) r) l
def strOf1 (x : FV) : Option (List UInt8) := asStr x
def strOf (e : List FV) : Option (List UInt8) := @List.rec FV (fun _ => Option (List UInt8)) none (fun x r _ => @List.rec FV (fun _ => Option (List UInt8)) (asStr x) (fun _ _ _ => none) r) e
def joinB (p : List UInt8) (l : List (List UInt8)) (H : HT) (c : Nat) : Out := @Bool.rec (fun _ => Out) .no (.ok (.str (joinS p l)) H c) (andB (Nat.blt 0 (len l)) (andB (Nat.ble (len l) 68719476736) (Nat.blt (len (joinS p l)) 68719476736)))
/-- strings.Join of a row. -/
def natJoin (args : List FV) (H : HT) (c : Nat) : Out := match args with
  | [.rsl 1 τ off n, .str p] => @Option.rec _ (fun _ => Out) .no (fun l => joinB p l H c) (@Option.rec _ (fun _ => Option (List (List UInt8))) none (fun es => mapO strOf es) (srcO 1 off n (lkH τ H)))
  | _ => .no
end

theorem digs2_eq {i : Nat} (h : i < 100) : Lib.decDigits i = digs2 i := by
  unfold digs2
  cases hb : Nat.blt i 10 with
  | true =>
    have : i < 10 := Nat.le_of_ble_eq_true hb
    unfold Lib.decDigits
    rw [dif_pos this]; rfl
  | false =>
    have hn : ¬ i < 10 := fun h => by
      have h2 : Nat.blt i 10 = true := Nat.ble_eq_true_of_le h
      rw [h2] at hb; cases hb
    have hd : i / 10 < 10 := by omega
    unfold Lib.decDigits
    rw [dif_neg hn]
    unfold Lib.decDigits
    rw [dif_pos hd]
    rfl

theorem joinS_eq (p : List UInt8) : ∀ (l : List (List UInt8)), joinS p l = p.intercalate l
  | [] => rfl
  | [x] => by simp [List.intercalate]; rfl
  | x :: y :: r => by
    have e : joinS p (x :: y :: r) = app x (app p (joinS p (y :: r))) := rfl
    rw [e, joinS_eq p (y :: r), app_eq, app_eq]
    simp [List.intercalate, List.intersperse]

theorem strL_eq : ∀ (l : List (List UInt8)), strL l = l.map fun s => [FV.str s]
  | [] => rfl
  | s :: l => by
    show [FV.str s] :: strL l = _
    rw [strL_eq l]; rfl
end
end Go.Fs
