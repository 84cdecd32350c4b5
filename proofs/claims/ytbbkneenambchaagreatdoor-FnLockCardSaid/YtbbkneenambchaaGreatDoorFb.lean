/- An evaluator for operations that touch no owned block, with what it owes; and that it is right. The evaluator for a region's operations, one after the other, and that it is right. The rules by which a contract is proved. Operations on owned memory. Rows that grow: make, append, and what is said anew of a row. append. What may be said anew of a state: a row that never changes again, a row read as a plain slice, an empty slice taken for a row. A region that draws its order: one order serves every order. A region that draws its order, second part: neighbours exchanged; every order. Conditions: none. -/
import Derived.Test.YtbbkneenambchaaGreatDoorFa
import Derived.Laws.MakeOwn
import Derived.Orders

namespace Go.Fs
open Go

def ofL : List (Nat × TV) → Nat → TV
  | [], _ => .v .und
  | (k, x) :: r, i => bif Nat.beq k i then x else ofL r i

def eraseL : List (Nat × TV) → Nat → List (Nat × TV)
  | [], _ => []
  | (k, x) :: r, i => bif Nat.beq k i then eraseL r i else (k, x) :: eraseL r i

theorem beq_false {i k : Nat} (h : i ≠ k) : Nat.beq k i = false := by
  cases hb : Nat.beq k i with
  | false => rfl
  | true => exact absurd (Nat.eq_of_beq_eq_true hb).symm h

theorem ofL_erase_ne : ∀ (L : List (Nat × TV)) (d i : Nat), i ≠ d → ofL (eraseL L d) i = ofL L i
  | [], _, _, _ => rfl
  | (k, x) :: r, d, i, h => by
    simp only [eraseL, ofL]
    cases hb : Nat.beq k d with
    | true =>
      have e : k = d := Nat.eq_of_beq_eq_true hb
      subst e
      simp only [cond_true, beq_false h, cond_false]
      exact ofL_erase_ne r k i h
    | false =>
      simp only [cond_false, ofL]
      rw [ofL_erase_ne r d i h]

theorem ofL_put (L : List (Nat × TV)) (d : Nat) (x : TV) : ofL ((d, x) :: eraseL L d) = upd (ofL L) d x := by
  funext i
  simp only [ofL]
  by_cases h : i = d
  · subst h
    rw [upd_same]
    simp
  · rw [upd_ne _ _ h, beq_false h]
    exact ofL_erase_ne L d i h

def putL (L : List (Nat × TV)) (d : Option Nat) (x : TV) : List (Nat × TV) :=
  match d with
  | none => L
  | some d => (d, x) :: eraseL L d

theorem put_ofL (n : Nat) (L : List (Nat × TV)) (B : List (Nat × List FV)) (H : Heap) (d : Option Nat) (x : TV) : St.put ⟨n, ofL L, B, H⟩ d x = ⟨n, ofL (putL L d x), B, H⟩ := by
  cases d with
  | none => rfl
  | some d => simp only [St.put, putL, ofL_put]

def noLocL : List (Nat × TV) → Nat → Bool
  | [], _ => true
  | (_, .v _) :: r, s => noLocL r s
  | (_, .loc k _) :: r, s => !(Nat.beq k s) && noLocL r s

theorem noLocL_ok : ∀ {L : List (Nat × TV)} {s : Nat}, noLocL L s = true → NoLoc (ofL L) s
  | [], s, _, i, p => by simp [ofL]
  | (k, .v x) :: r, s, h, i, p => by
    simp only [noLocL] at h
    simp only [ofL]
    cases hb : Nat.beq k i with
    | true => simp
    | false => exact noLocL_ok h i p
  | (k, .loc c q) :: r, s, h, i, p => by
    simp only [noLocL, Bool.and_eq_true] at h
    simp only [ofL]
    cases hb : Nat.beq k i with
    | true =>
      simp only [cond_true]
      intro e
      cases e
      have := h.1
      simp at this
    | false => exact noLocL_ok h.2 i p

inductive Hint where
  | el (e : List FV)
  | byte (c : UInt8)
  | ret (x : FV)

def All : List Prop → Prop
  | [] => True
  | p :: r => p ∧ All r

theorem All.append : ∀ {a b : List Prop}, All (a ++ b) → All a ∧ All b
  | [], _, h => ⟨trivial, h⟩
  | _ :: _, _, h => ⟨⟨h.1, (All.append h.2).1⟩, (All.append h.2).2⟩

/-- What an operation gives: a value and what is owed. -/
abbrev Ans := Option (TV × List Prop × List Hint)

def evBin (P : Program) (wm : Bool) (op : BinOp) (t : TypeId) (x y : TV) (hs : List Hint) : Ans :=
  match x, y with
  | .v (.int k a), .v (.int k' b) =>
    match op with
    | .shl => some (.v (.int k (k.wrap (a * 2 ^ (min b.toNat k.bits)))), [0 ≤ b], hs)
    | .shr => some (.v (.int k (a.fdiv (2 ^ (min b.toNat k.bits)))), [0 ≤ b], hs)
    | .quo => some (.v (.int k (k.wrap (a.tdiv b))), [k = k', b ≠ 0], hs)
    | .rem => some (.v (.int k (a.tmod b)), [k = k', b ≠ 0], hs)
    | .add => match wm, k with
      | false, .i64 => some (.v (.int .i64 (a + b)), [IntKind.i64 = k', InR (a + b)], hs)
      | _, _ => some (.v (.int k (k.wrap (a + b))), [k = k'], hs)
    | .sub => match wm, k with
      | false, .i64 => some (.v (.int .i64 (a - b)), [IntKind.i64 = k', InR (a - b)], hs)
      | _, _ => some (.v (.int k (k.wrap (a - b))), [k = k'], hs)
    | .mul => match wm, k with
      | false, .i64 => some (.v (.int .i64 (a * b)), [IntKind.i64 = k', InR (a * b)], hs)
      | _, _ => some (.v (.int k (k.wrap (a * b))), [k = k'], hs)
    | op => match cmpI op a b with
      | some r => some (.v (.bool r), [k = k'], hs)
      | none => match bitsI op k a b with
        | some r => some (.v (.int k r), [k = k'], hs)
        | none => none
  | .v (.str a), .v (.str b) =>
    match op with
    | .add => some (.v (.str (a ++ b)), [(a ++ b).length < LB], hs)
    | op => match strCmp op a b with
      | some r => some (.v (.bool r), [], hs)
      | none => none
  | .v (.bool a), .v (.bool b) =>
    match op with
    | .eql => some (.v (.bool (a == b)), [kdOf P t = 1], hs)
    | .neq => some (.v (.bool (a != b)), [kdOf P t = 1], hs)
    | _ => none
  | _, _ => none

def evIdx (P : Program) (t : TypeId) (x y : TV) (hs : List Hint) : Ans :=
  match x, y with
  | .v (.rsl sz τ off len), .v (.int _ n) => some (.v (.rp sz τ (off + n.toNat) 0), [kdOf P t = 5, eszOf P t = some sz, 0 ≤ n, n < (len : Int)], hs)
  | .v (.sl sz es), .v (.int _ n) => match hs with
    | .el e :: hs => some (.v (.pp e), [kdOf P t = 5, eszOf P t = some sz, 0 ≤ n, es[n.toNat]? = some e], hs)
    | _ => none
  | .v (.slx sz es), .v (.int _ n) => match hs with
    | .el e :: hs => some (.v (.pp e), [kdOf P t = 5, eszOf P t = some sz, 0 ≤ n, es[n.toNat]? = some e], hs)
    | _ => none
  | _, _ => none

def evBuiltin (P : Program) (b : Builtin) (ts : List TypeId) (xs : List TV) (hs : List Hint) : Ans :=
  match b, ts, xs with
  | .len, [t], [.v (.str s)] => some (.v (.int .i64 s.length), [kdOf P t = 3], hs)
  | .len, [t], [.v x] => match slLen x with
    | some n => some (.v (.int .i64 n), [kdOf P t = 5], hs)
    | none => none
  | _, _, _ => none

/-- Operations that only make a value. -/
def evP (P : Program) (wm : Bool) (o : Oper) (E : Nat → TV) (hs : List Hint) : Ans :=
  match o.op with
  | .move y => some (ev E y, [], hs)
  | .assign y => some (ev E y, [], hs)
  | .pick c a b => match ev E c with
    | .v (.bool t) => some (pickB t (ev E a) (ev E b), [], hs)
    | _ => none
  | .unOp op _ y => match op, ev E y with
    | .not, .v (.bool b) => some (.v (.bool !b), [], hs)
    | .neg, .v (.int .i64 n) => some (.v (.int .i64 (-n)), [InR (-n)], hs)
    | _, _ => none
  | .binOp op t x y _ => evBin P wm op t (ev E x) (ev E y) hs
  | .fieldAddr t y f => match (offsOf P t)[f]? with
    | some n => match shift (ev E y) n with
      | some x => some (x, [], hs)
      | none => none
    | none => none
  | .extract y i => match ev E y with
    | .v (.tup cs) => match cs[i]? with
      | some x => some (.v x, [], hs)
      | none => none
    | _ => none
  | .nilCheck y => match shift (ev E y) 0 with
    | some _ => some (ev E y, [], hs)
    | none => none
  | .makeFunc (.func f) first caps => match first.toList, vals (ev E) caps.toList with
    | [], some cs => some (.v (.fn f cs), [], hs)
    | _, _ => none
  | .build t parts => match zeroOf P t, placesOf P t, pvals (ev E) parts.toList with
    | some z, some pl, some xs => match (ofC z).plain with
      | true => match fillF pl (ofC z).cells xs with
        | some out => some (.v (.agg out), [], hs)
        | none => none
      | false => none
    | _, _, _ => none
  | .buildSlice t n parts => match zeroOf P (elOf P t), eszOf P t, pvals (ev E) parts.toList with
    | some z, some sz, some xs => match (ofC z).plain && Nat.beq (ofC z).cells.length sz && Nat.blt 0 sz && Nat.ble (n * sz) 16777216 && Nat.beq (kdOf P t) 5 with
      | true => match fillE sz (List.replicate n (ofC z).cells) xs with
        | some out => some (.v (.slx sz out), [], hs)
        | none => none
      | false => none
    | _, _, _ => none
  | .indexAddr t x y => evIdx P t (ev E x) (ev E y) hs
  | .index t x y => match ev E x, ev E y, hs with
    | .v (.str s), .v (.int _ n), .byte c :: hs => some (.v (.int .u8 c.toNat), [kdOf P t = 3, 0 ≤ n, s[n.toNat]? = some c], hs)
    | _, _, _ => none
  | .load t y => match ev E y with
    | .v (.pp cs) => match tySize P t, tyHas P t with
      | some n, true => match ldv (tyAgg P t) n cs 0 with
        | some x => some (.v x, [], hs)
        | none => none
      | _, _ => none
    | _ => none
  | .convert s d y => match ev E y, P.underlying d with
    | .v (.int _ n), some (.int k') => match wm with
      | false => some (.v (.int k' n), [tyHas P s = true, k'.has n], hs)
      | true => some (.v (.int k' (k'.wrap n)), [tyHas P s = true], hs)
    | _, _ => none
  | .call c => match c.callee with
    | .builtin b => evBuiltin P b c.argTypes.toList (c.args.toList.map (ev E)) hs
    | _ => none
  | _ => none

section
variable {P : Program} {o : Oper} {E : Nat → TV} {x : TV} {ps : List Prop} {hs hs' : List Hint} {wm : Bool}

theorem evBin_ok {op : BinOp} {t u : TypeId} {a b : Operand} (ho : o.op = .binOp op t a b u) (h : evBin P wm op t (ev E a) (ev E b) hs = some (x, ps, hs')) (hp : All ps) : PR P o (ev E) x := by
  unfold evBin at h
  split at h
  · rename_i k m k' n hx hy
    split at h
    · cases h; exact PR_shl ho hx hy hp.1
    · cases h; exact PR_shr ho hx hy hp.1
    · cases h; obtain ⟨rfl, hb, _⟩ := hp; exact PR_quo ho hx hy hb
    · cases h; obtain ⟨rfl, hb, _⟩ := hp; exact PR_rem ho hx hy hb
    · split at h
      · cases h; obtain ⟨rfl, hb, _⟩ := hp; exact PR_arith ho hx hy rfl hb
      · cases h; obtain ⟨rfl, _⟩ := hp; exact PR_arithW ho hx hy rfl
    · split at h
      · cases h; obtain ⟨rfl, hb, _⟩ := hp; exact PR_arith ho hx hy rfl hb
      · cases h; obtain ⟨rfl, _⟩ := hp; exact PR_arithW ho hx hy rfl
    · split at h
      · cases h; obtain ⟨rfl, hb, _⟩ := hp; exact PR_arith ho hx hy rfl hb
      · cases h; obtain ⟨rfl, _⟩ := hp; exact PR_arithW ho hx hy rfl
    · split at h
      · rename_i r hr
        cases h; obtain ⟨rfl, _⟩ := hp; exact PR_cmp ho hx hy hr
      · split at h
        · rename_i r hr
          cases h; obtain ⟨rfl, _⟩ := hp; exact PR_bits ho hx hy hr
        · cases h
  · rename_i a' b' hx hy
    split at h
    · cases h; exact PR_strAdd ho hx hy hp.1
    · split at h
      · rename_i r hr
        cases h; exact PR_strCmp ho hx hy hr
      · cases h
  · rename_i a' b' hx hy
    split at h
    · cases h; exact PR_boolEq ho hx hy hp.1
    · cases h; exact PR_boolNe ho hx hy hp.1
    · cases h
  · cases h

theorem evIdx_ok {t : TypeId} {a b : Operand} (ho : o.op = .indexAddr t a b) (h : evIdx P t (ev E a) (ev E b) hs = some (x, ps, hs')) (hp : All ps) : PR P o (ev E) x := by
  unfold evIdx at h
  split at h
  · rename_i hx hy
    cases h; obtain ⟨h1, h2, h3, h4, _⟩ := hp
    exact PR_indexAddr_rsl ho hx hy h1 h2 h3 h4
  · rename_i hx hy
    split at h
    · cases h; obtain ⟨h1, h2, h3, h4, _⟩ := hp
      exact PR_indexAddr_sl ho hx hy h1 h2 h3 (by simpa [slEl] using h4)
    · cases h
  · rename_i hx hy
    split at h
    · cases h; obtain ⟨h1, h2, h3, h4, _⟩ := hp
      exact PR_indexAddr_sl ho hx hy h1 h2 h3 (by simpa [slEl] using h4)
    · cases h
  · cases h

theorem list_one {α : Type} {a : Array α} {x : α} (h : a.toList = [x]) : a = #[x] := by
  apply Array.ext'; simpa using h

theorem map_one {α β : Type} {f : α → β} {l : List α} {y : β} (h : l.map f = [y]) : ∃ x, l = [x] ∧ f x = y := by
  match l, h with
  | [x], h => exact ⟨x, rfl, by simpa using h⟩

theorem evBuiltin_ok {c : Call} {b : Builtin} (ho : o.op = .call c) (hc : c.callee = .builtin b) (h : evBuiltin P b c.argTypes.toList (c.args.toList.map (ev E)) hs = some (x, ps, hs')) (hp : All ps) : PR P o (ev E) x := by
  unfold evBuiltin at h
  split at h
  · rename_i t s ht hx
    cases h
    obtain ⟨y, hy, he⟩ := map_one hx
    exact PR_len_str ⟨c, ho, hc, list_one hy, list_one ht⟩ he hp.1
  · rename_i t z _ ht hx
    split at h
    · rename_i n hn
      cases h
      obtain ⟨y, hy, he⟩ := map_one hx
      exact PR_len_slice ⟨c, ho, hc, list_one hy, list_one ht⟩ he hn hp.1
    · cases h
  · cases h

theorem evP_ok (h : evP P wm o E hs = some (x, ps, hs')) (hp : All ps) : PR P o (ev E) x := by
  unfold evP at h
  split at h
  · rename_i ho; cases h; exact PR_move ho
  · rename_i ho; cases h; exact PR_assign ho
  · rename_i ho; split at h
    · rename_i hc; cases h; exact PR_pick ho hc
    · cases h
  · rename_i ho; split at h
    · rename_i hy; cases h; exact PR_not ho hy
    · rename_i hy; cases h; exact PR_neg ho hy hp.1
    · cases h
  · rename_i ho; exact evBin_ok ho h hp
  · rename_i ho; split at h
    · rename_i hn; split at h
      · rename_i hx; cases h; exact PR_fieldAddr ho hn hx
      · cases h
    · cases h
  · rename_i ho; split at h
    · rename_i hy; split at h
      · rename_i hi; cases h; exact PR_extract ho hy hi
      · cases h
    · cases h
  · rename_i ho; split at h
    · rename_i hy; cases h; exact PR_nilCheck ho (by rw [hy]; simp)
    · cases h
  · rename_i ho; split at h
    · rename_i hf hc
      cases h
      have : ∀ {a : Array Operand}, a.toList = [] → a = #[] := fun h => by apply Array.ext'; simpa using h
      rw [this hf] at ho
      exact PR_makeFunc ho hc
    · cases h
  · rename_i ho; split at h
    · rename_i hz hpl hx; split at h
      · rename_i hzc; split at h
        · rename_i hf; cases h; exact PR_build ho hz hpl hx hzc hf
        · cases h
      · cases h
    · cases h
  · rename_i ho; split at h
    · rename_i hz hs' hx; split at h
      · rename_i hb
        simp only [Bool.and_eq_true] at hb
        obtain ⟨⟨⟨⟨b1, b2⟩, b3⟩, b4⟩, b5⟩ := hb
        split at h
        · rename_i hf; cases h
          exact PR_buildSlice ho (Nat.eq_of_beq_eq_true b5) hz hs' hx b1 (Nat.eq_of_beq_eq_true b2) (Nat.le_of_ble_eq_true b4) (by simpa [Nat.blt_eq] using b3) hf
        · cases h
      · cases h
    · cases h
  · rename_i ho; exact evIdx_ok ho h hp
  · rename_i ho; split at h
    · rename_i hx hy; cases h; obtain ⟨h1, h2, h3, _⟩ := hp; exact PR_index_str ho hx hy h1 h2 h3
    · cases h
  · rename_i ho; split at h
    · rename_i hy; split at h
      · rename_i hn hh; split at h
        · rename_i hx; cases h; exact PR_load_pp ho hy hh hn hx
        · cases h
      · cases h
    · cases h
  · rename_i ho; split at h
    · rename_i hy hd; split at h
      · cases h; obtain ⟨h1, h2, _⟩ := hp
        have := PR_convInt (P := P) (k' := _) ho hy h1 hd
        rwa [wrap_same h2] at this
      · cases h; exact PR_convInt ho hy hp.1 hd
    · cases h
  · rename_i ho; split at h
    · rename_i hc; exact evBuiltin_ok ho hc h hp
    · cases h
  · cases h
end

end Go.Fs

namespace Go.Fs
open Go

structure ES where
  n : Nat
  L : List (Nat × TV)
  B : List (Nat × List FV)

abbrev ES.st (S : ES) (H : Heap) : St := ⟨S.n, ofL S.L, S.B, H⟩

/-- The callee and its arguments, where they are plain values. -/
def callArgs (c : Call) (E : Nat → TV) : Option (FuncId × List FV) :=
  match c.callee with
  | .value fo => match ev E fo with
    | .v (.fn f caps) => match vals (ev E) c.args.toList with
      | some as => some (f, as ++ caps)
      | none => none
    | _ => none
  | _ => none

def ev1 (P : Program) (wm : Bool) (o : Oper) (S : ES) (hs : List Hint) : Option (ES × List Prop × List Hint) :=
  match dstOK S.n o.dst with
  | false => none
  | true => match o.op, o.dst with
    | .alloc t, some s => match zeroOf P t, Nat.blt s S.n && noLocL S.L s && !(hasB S.B s) with
      | some z, true => match (ofC z).plain with
        | true => some (⟨S.n, putL S.L (some s) (.loc s 0), (s, (ofC z).cells) :: S.B⟩, [], hs)
        | false => none
      | _, _ => none
    | .box _ y, some s => match ev (ofL S.L) y, Nat.blt s S.n && noLocL S.L s && !(hasB S.B s) with
      | .v x, true => match x.plain with
        | true => some (⟨S.n, putL S.L (some s) (.loc s 0), (s, x.cells) :: S.B⟩, [], hs)
        | false => none
      | _, _ => none
    | .store t y z, none => match ev (ofL S.L) y, ev (ofL S.L) z, tySize P t with
      | .loc s p, .v x, some n => match getB S.B s with
        | some cs => match x.plain && Nat.beq x.cells.length n && Nat.ble (p + n) cs.length with
          | true => some (⟨S.n, S.L, setB S.B s (wrF cs p x.cells)⟩, [], hs)
          | false => none
        | none => none
      | _, _, _ => none
    | .load t y, d => match ev (ofL S.L) y with
      | .loc s p => match getB S.B s, tySize P t, tyHas P t with
        | some cs, some n, true => match ldv (tyAgg P t) n cs p with
          | some x => some (⟨S.n, putL S.L d (.v x), S.B⟩, [], hs)
          | none => none
        | _, _, _ => none
      | .v _ => match evP P wm o (ofL S.L) hs with
        | some (x, ps, hs) => some (⟨S.n, putL S.L d x, S.B⟩, ps, hs)
        | none => none
    | .call c, d => match c.callee with
      | .value _ => match callArgs c (ofL S.L), hs with
        | some (f, as), .ret x :: hs => some (⟨S.n, putL S.L d (.v x), S.B⟩, [Ret P f as x], hs)
        | _, _ => none
      | _ => match evP P wm o (ofL S.L) hs with
        | some (x, ps, hs) => some (⟨S.n, putL S.L d x, S.B⟩, ps, hs)
        | none => none
    | _, d => match evP P wm o (ofL S.L) hs with
      | some (x, ps, hs) => some (⟨S.n, putL S.L d x, S.B⟩, ps, hs)
      | none => none

theorem callArgs_ok {o : Oper} {c : Call} {E : Nat → TV} {f : FuncId} {as : List FV} (ho : o.op = .call c) (h : callArgs c E = some (f, as)) : CallOf' o E f as := by
  unfold callArgs at h
  split at h
  · rename_i fo hc
    split at h
    · rename_i g caps hf
      split at h
      · rename_i l hl
        cases h
        exact ⟨c, fo, caps, l, ho, hc, hf, hl, rfl⟩
      · cases h
    · cases h
  · cases h

theorem ev1_ok {P : Program} {wm : Bool} {o : Oper} {S S' : ES} {hs hs' : List Hint} {ps : List Prop} {H : Heap} {K : St → Prop} (h : ev1 P wm o S hs = some (S', ps, hs')) (hp : All ps) (k : K (S'.st H)) : Fop P o (S.st H) K := by
  unfold ev1 at h
  split at h
  · cases h
  · rename_i hd
    have pureCase : ∀ {x : TV} {qs : List Prop} {hs1 hs2 : List Hint} {d : Option Nat}, o.dst = d → evP P wm o (ofL S.L) hs1 = some (x, qs, hs2) → All qs → K ((⟨S.n, putL S.L d x, S.B⟩ : ES).st H) → Fop P o (S.st H) K :=
      fun {x qs hs1 hs2 d} hdst hx hq hk => .pure x hd (evP_ok hx hq) (by
        show K (St.put ⟨S.n, ofL S.L, S.B, H⟩ o.dst x)
        rw [put_ofL, hdst]; exact hk)
    split at h
    · -- alloc
      rename_i t s ho hdst
      split at h
      · rename_i z hz hb
        split at h
        · rename_i hpl
          cases h
          simp only [Bool.and_eq_true, Bool.not_eq_true'] at hb
          obtain ⟨⟨b1, b2⟩, b3⟩ := hb
          exact .alloc s t z ho hdst b1 hz hpl (noLocL_ok b2) b3 (by
            show K (St.put ⟨S.n, ofL S.L, (s, (ofC z).cells) :: S.B, H⟩ (some s) (.loc s 0))
            rw [put_ofL]; exact k)
        · cases h
      · cases h
    · rename_i t y s ho hdst
      split at h
      · rename_i x hy hb
        split at h
        · rename_i hpl
          cases h
          simp only [Bool.and_eq_true, Bool.not_eq_true'] at hb
          obtain ⟨⟨b1, b2⟩, b3⟩ := hb
          exact .box s t y x ho hdst b1 hy hpl (noLocL_ok b2) b3 (by
            show K (St.put ⟨S.n, ofL S.L, (s, x.cells) :: S.B, H⟩ (some s) (.loc s 0))
            rw [put_ofL]; exact k)
        · cases h
      · cases h
    · rename_i t y z ho hdst
      split at h
      · rename_i s p x n hy hz hn
        split at h
        · rename_i cs hc
          split at h
          · rename_i hb
            cases h
            simp only [Bool.and_eq_true] at hb
            obtain ⟨⟨b1, b2⟩, b3⟩ := hb
            exact .storeB t y z s p n cs x ho hdst hy hz hc b1 hn (Nat.eq_of_beq_eq_true b2) (Nat.le_of_ble_eq_true b3) k
          · cases h
        · cases h
      · cases h
    · rename_i t y ho
      split at h
      · rename_i s p hy
        split at h
        · rename_i cs n hc hn hh
          split at h
          · rename_i x hx
            cases h
            exact .loadB t y s p n cs x ho hd hy hc hh hn hx (by
              show K (St.put ⟨S.n, ofL S.L, S.B, H⟩ o.dst (.v x))
              rw [put_ofL]; exact k)
          · cases h
        · cases h
      · split at h
        · rename_i hx
          cases h
          exact pureCase rfl hx hp k
        · cases h
    · rename_i c ho
      split at h
      · split at h
        · rename_i f as x hs2 hca
          cases h
          exact .ret f as x hd (callArgs_ok ho hca) hp.1 (by
            show K (St.put ⟨S.n, ofL S.L, S.B, H⟩ o.dst (.v x))
            rw [put_ofL]; exact k)
        · cases h
      · split at h
        · rename_i hx
          cases h
          exact pureCase rfl hx hp k
        · cases h
    · split at h
      · rename_i hx
        cases h
        exact pureCase rfl hx hp k
      · cases h

def memN : List Nat → Nat → Bool
  | [], _ => false
  | k :: r, i => Nat.beq k i || memN r i

/-- Several operations; wm: those that wrap. -/
def evs (P : Program) (ops : Array Oper) (wm : List Nat) : List Nat → ES → List Hint → Option (ES × List Prop)
  | [], S, _ => some (S, [])
  | i :: l, S, hs => match ops[i]? with
    | none => none
    | some o => match gd ops o (ofL S.L) with
      | some true => match ev1 P (memN wm i) o S hs with
        | some (S', ps, hs') => match evs P ops wm l S' hs' with
          | some (S2, qs) => some (S2, ps ++ qs)
          | none => none
        | none => none
      | some false => match dstOK S.n o.dst with
        | true => evs P ops wm l ⟨S.n, putL S.L o.dst (.v .und), S.B⟩ hs
        | false => none
      | none => none

theorem evs_ok {P : Program} {ops : Array Oper} {wm : List Nat} {H : Heap} {K : St → Prop} : ∀ (l : List Nat) {S S' : ES} {hs : List Hint} {ps : List Prop}, evs P ops wm l S hs = some (S', ps) → All ps → K (S'.st H) → WO P ops l K (S.st H)
  | [], S, S', hs, ps, h, _, k => by simp [evs] at h; obtain ⟨rfl, rfl⟩ := h; exact k
  | i :: l, S, S', hs, ps, h, hp, k => by
    simp only [evs] at h
    simp only [WO]
    cases ho : ops[i]? with
    | none => simp [ho] at h
    | some o =>
      simp only [ho] at h ⊢
      cases hg : gd ops o (ofL S.L) with
      | none => simp [hg] at h
      | some b =>
        cases b with
        | true =>
          simp only [hg] at h
          cases h1 : ev1 P (memN wm i) o S hs with
          | none => simp [h1] at h
          | some r =>
            obtain ⟨S1, ps1, hs1⟩ := r
            simp only [h1] at h
            cases h2 : evs P ops wm l S1 hs1 with
            | none => simp [h2] at h
            | some r2 =>
              obtain ⟨S2, qs⟩ := r2
              simp only [h2, Option.some.injEq, Prod.mk.injEq] at h
              obtain ⟨rfl, rfl⟩ := h
              exact ev1_ok h1 hp.append.1 (evs_ok l h2 hp.append.2 k)
        | false =>
          simp only [hg] at h
          cases hd : dstOK S.n o.dst with
          | false => simp [hd] at h
          | true =>
            simp only [hd] at h
            refine ⟨rfl, ?_⟩
            show WO P ops l K (St.put ⟨S.n, ofL S.L, S.B, H⟩ o.dst (.v .und))
            rw [put_ofL]
            exact evs_ok l h hp k

theorem WO.app {P : Program} {ops : Array Oper} {K : St → Prop} : ∀ (l1 l2 : List Nat) {S : St}, WO P ops l1 (WO P ops l2 K) S → WO P ops (l1 ++ l2) K S
  | [], _, _, h => h
  | i :: l1, l2, S, h => by
    simp only [WO, List.cons_append] at h ⊢
    cases ho : ops[i]? with
    | none => simp only [ho] at h; exact WO.app l1 l2 h
    | some o =>
      simp only [ho] at h ⊢
      cases hg : gd ops o S.E with
      | none => simp [hg] at h
      | some b =>
        cases b with
        | true =>
          simp only [hg] at h ⊢
          exact Fop.monoK (fun S' h' => WO.app l1 l2 h') h
        | false =>
          simp only [hg] at h ⊢
          exact ⟨h.1, WO.app l1 l2 h.2⟩

/-- Only these slots and boxes are remembered. -/
def keepL (L : List (Nat × TV)) : List Nat → List (Nat × TV)
  | [] => []
  | i :: r => (i, ofL L i) :: keepL L r

def keepB (B : List (Nat × List FV)) (ks : List Nat) : List (Nat × List FV) := B.filter fun p => memN ks p.1

theorem keepL_ok (L : List (Nat × TV)) : ∀ (ks : List Nat) (i : Nat), ofL (keepL L ks) i = ofL L i ∨ ofL (keepL L ks) i = .v .und
  | [], i => Or.inr rfl
  | k :: r, i => by
    simp only [keepL, ofL]
    cases hb : Nat.beq k i with
    | true =>
      have : k = i := Nat.eq_of_beq_eq_true hb
      subst this; exact Or.inl rfl
    | false => exact keepL_ok L r i

end Go.Fs

namespace Go.Fs
open Go

def evsK (P : Program) (ops : Array Oper) (wm l : List Nat) (S : ES) (hs : List Hint) (keep kb : List Nat) : Option (List (Nat × TV) × List (Nat × List FV) × List Prop) :=
  match evs P ops wm l S hs with
  | some (S', ps) => some (keepL S'.L keep, keepB S'.B kb, ps)
  | none => none

theorem evs_n {P : Program} {ops : Array Oper} {wm : List Nat} : ∀ (l : List Nat) {S S' : ES} {hs : List Hint} {ps : List Prop}, evs P ops wm l S hs = some (S', ps) → S'.n = S.n := by
  have one : ∀ {wm : Bool} {o : Oper} {S S' : ES} {hs hs' : List Hint} {ps : List Prop}, ev1 P wm o S hs = some (S', ps, hs') → S'.n = S.n := by
    intro wm o S S' hs hs' ps h
    unfold ev1 at h
    repeat' split at h
    all_goals first | (cases h; done) | (cases h; rfl)
  intro l
  induction l with
  | nil => intro S S' hs ps h; simp [evs] at h; rw [h.1]
  | cons i l ih =>
    intro S S' hs ps h
    simp only [evs] at h
    cases ho : ops[i]? with
    | none => simp [ho] at h
    | some o =>
      simp only [ho] at h
      cases hg : gd ops o (ofL S.L) with
      | none => simp [hg] at h
      | some b =>
        cases b with
        | true =>
          simp only [hg] at h
          cases h1 : ev1 P (memN wm i) o S hs with
          | none => simp [h1] at h
          | some r =>
            obtain ⟨S1, ps1, hs1⟩ := r
            simp only [h1] at h
            cases h2 : evs P ops wm l S1 hs1 with
            | none => simp [h2] at h
            | some r2 =>
              obtain ⟨S2, qs⟩ := r2
              simp only [h2, Option.some.injEq, Prod.mk.injEq] at h
              rw [← h.1, ih h2, one h1]
        | false =>
          simp only [hg] at h
          cases hd : dstOK S.n o.dst with
          | false => simp [hd] at h
          | true => simp only [hd] at h; exact (ih (S := ⟨S.n, putL S.L o.dst (.v .und), S.B⟩) h)

section
variable {P : Program} {ops : Array Oper} {k : List Item} {Ψ : St → Prop} {n : Nat} {L L' : List (Nat × TV)} {B B' : List (Nat × List FV)} {H : Heap} {hs : List Hint} {ps : List Prop} {K : St → Prop}

/-- The last operations of a region; what is no longer wanted is forgotten. -/
theorem WO.fin (wm : List Nat) {l : List Nat} (hs : List Hint) (keep kb : List Nat) (h : evsK P ops wm l ⟨n, L, B⟩ hs keep kb = some (L', B', ps)) (hp : All ps) (hk : SW P k Ψ ⟨n, ofL L', B', H⟩) :
    WO P ops l (SW P k Ψ) ⟨n, ofL L, B, H⟩ := by
  unfold evsK at h
  cases he : evs P ops wm l ⟨n, L, B⟩ hs with
  | none => simp [he] at h
  | some r =>
    obtain ⟨S', qs⟩ := r
    simp only [he, Option.some.injEq, Prod.mk.injEq] at h
    obtain ⟨rfl, rfl, rfl⟩ := h
    refine evs_ok l he hp ?_
    have hn := evs_n l he
    refine SW.weaken (S' := ⟨n, ofL (keepL S'.L keep), keepB S'.B kb, H⟩) ⟨hn.symm, keepL_ok S'.L keep, List.filter_sublist, [], by simp⟩ hk

theorem SW.reg (wm : List Nat) {id : Nat} (hs : List Hint) (keep kb : List Nat) (h : evsK P ops wm (List.range ops.size) ⟨n, L, B⟩ hs keep kb = some (L', B', ps)) (hp : All ps) (hk : SW P k Ψ ⟨n, ofL L', B', H⟩) :
    SW P (.code (.region id ops false) :: k) Ψ ⟨n, ofL L, B, H⟩ := SW.region (WO.fin wm hs keep kb h hp hk)

theorem WO.mid (wm : List Nat) {l1 l2 : List Nat} (hs : List Hint) (h : evs P ops wm l1 ⟨n, L, B⟩ hs = some (⟨n, L', B'⟩, ps)) (hp : All ps) (hk : WO P ops l2 K ⟨n, ofL L', B', H⟩) :
    WO P ops (l1 ++ l2) K ⟨n, ofL L, B, H⟩ := WO.app l1 l2 (evs_ok l1 h hp hk)

theorem WO.op {i : Nat} {l : List Nat} {o : Oper} {S : St} (ho : ops[i]? = some o) (hg : gd ops o S.E = some true) (h : Fop P o S (WO P ops l K)) : WO P ops (i :: l) K S := by
  simp only [WO, ho, hg]; exact h

/-- A call that turns owned memory. -/
theorem WO.call {i : Nat} {l : List Nat} {o : Oper} {c : Call} {f : FuncId} {as : List FV} {H1 R : Heap} {Post : FV → Heap → Prop} (ho : ops[i]? = some o) (hg : gd ops o (ofL L) = some true) (hop : o.op = .call c)
    (hd : dstOK n o.dst = true) (hc : callArgs c (ofL L) = some (f, as)) (hp : H.Perm (H1 ++ R)) (h : FCall P f as H1 Post) (k : ∀ x H', Post x H' → WO P ops l K ⟨n, ofL (putL L o.dst (.v x)), B, H' ++ R⟩) :
    WO P ops (i :: l) K ⟨n, ofL L, B, H⟩ :=
  WO.op ho hg (.call f as H1 R Post hd (callArgs_ok hop hc) hp h fun x H' hx => by
    show WO P ops l K (St.put ⟨n, ofL L, B, H' ++ R⟩ o.dst (.v x))
    rw [put_ofL]; exact k x H' hx)

/-- An operation on owned memory. -/
theorem WO.hop {i : Nat} {l : List Nat} {o : Oper} {Post : FV → Heap → Prop} (ho : ops[i]? = some o) (hg : gd ops o (ofL L) = some true) (hd : dstOK n o.dst = true) (h : HR P o (ev (ofL L)) H Post)
    (k : ∀ x H', Post x H' → WO P ops l K ⟨n, ofL (putL L o.dst (.v x)), B, H'⟩) : WO P ops (i :: l) K ⟨n, ofL L, B, H⟩ :=
  WO.op ho hg (.hop Post hd h fun x H' hx => by
    show WO P ops l K (St.put ⟨n, ofL L, B, H'⟩ o.dst (.v x))
    rw [put_ofL]; exact k x H' hx)

/-- What a slot holds, when that is known to be a slice that is only read: its length. -/
theorem SW.bound {i : Nat} {sz : Nat} {es : List (List FV)} {S : St} (hi : S.E i = .v (.sl sz es)) (h : es.length < LB → SW P k Ψ S) : SW P k Ψ S := fun Z w F β a r b cs => by
  have h0 := r.env i
  rw [hi] at h0
  obtain ⟨_, _, _, _, hs⟩ := VR.sl_inv h0
  exact h hs.bound Z w F β a r b cs

theorem SW.boundS {i : Nat} {s : List UInt8} {S : St} (hi : S.E i = .v (.str s)) (h : s.length < LB → SW P k Ψ S) : SW P k Ψ S := fun Z w F β a r b cs => by
  have h0 := r.env i
  rw [hi] at h0
  exact h (VR.str_inv h0).2 Z w F β a r b cs

theorem SW.boundI {i : Nat} {kd : IntKind} {m : Int} {S : St} (hi : S.E i = .v (.int kd m)) (h : kd.has m → SW P k Ψ S) : SW P k Ψ S := fun Z w F β a r b cs => by
  have h0 := r.env i
  rw [hi] at h0
  exact h (VR.int_inv h0).2 Z w F β a r b cs

/-- The same state, otherwise written. -/
theorem SW.eqL {L2 : List (Nat × TV)} (e : L = L2) (h : SW P k Ψ ⟨n, ofL L2, B, H⟩) : SW P k Ψ ⟨n, ofL L, B, H⟩ := by rw [e]; exact h
end

theorem Ret.intro {P : Program} {f : FuncId} {fn : Func} {c : Code} {args : List FV} {x : FV} (hf : P.funcs[f]? = some fn) (hb : fn.body = some c)
    (hname : (fn.name == "runtime.NumGoroutine") = false) (hn : Nat.ble args.length fn.ntmps = true) (L : List (Nat × TV)) (hL : ∀ i, E0 args i = ofL L i)
    (h : SW P [.code c] (fun S => fres P S fn.results.toList = some x ∧ S.H = []) ⟨fn.ntmps, ofL L, [], []⟩) : Ret P f args x := by
  refine FCall.intro hf hb hname hn ?_
  have e : E0 args = ofL L := funext hL
  rw [e]
  refine fun Z w F β a r b cs => ?_
  obtain ⟨Z', w', β', S', a', todo, h1, h2, h3, h4⟩ := h Z w F β a r b cs
  exact ⟨Z', w', β', S', a', todo, h1, h2, ⟨x, h3.1, rfl, h3.2⟩, h4⟩

/-- The slots when a function begins, as a list. -/
def argL : List FV → Nat → List (Nat × TV)
  | [], _ => []
  | x :: r, i => (i, .v x) :: argL r (i + 1)

theorem argL_ok : ∀ (args : List FV) (k i : Nat), ofL (argL args k) (k + i) = E0 args i
  | [], k, i => by simp [argL, ofL, E0]
  | x :: r, k, i => by
    simp only [argL, ofL]
    cases i with
    | zero => simp [E0]
    | succ i =>
      rw [beq_false (by omega)]
      have := argL_ok r (k + 1) i
      rw [show k + 1 + i = k + (i + 1) by omega] at this
      rw [cond_false, this]
      simp [E0]

theorem E0_argL (args : List FV) (i : Nat) : E0 args i = ofL (argL args 0) i := by
  have := argL_ok args 0 i
  rw [Nat.zero_add] at this
  exact this.symm

end Go.Fs

namespace Go.Fs
open Go

theorem set_split {H : Heap} {j : Nat} {p : Nat × FObj} (h : H[j]? = some p) : ∃ A C, H = A ++ p :: C ∧ ∀ q, H.set j q = A ++ q :: C := by
  have hlt : j < H.length := (List.getElem?_eq_some_iff.1 h).1
  have he : H[j] = p := (List.getElem?_eq_some_iff.1 h).2
  refine ⟨H.take j, H.drop (j + 1), ?_, fun q => ?_⟩
  · rw [← he]; simp
  · exact List.set_eq_take_append_cons_drop.trans (by rw [if_pos hlt])

theorem HeapOK.front {Z : Ctx} {w : World} {H F : Heap} {j : Nat} {p : Nat × FObj} (hh : HeapOK Z w (H ++ F)) (h : H[j]? = some p) :
    ∃ L, HeapOK Z w (p :: L) ∧ ∀ q, (q :: L).Perm (H.set j q ++ F) := by
  obtain ⟨A, C, e1, e2⟩ := set_split h
  have hp : ∀ q, (q :: (A ++ (C ++ F))).Perm (H.set j q ++ F) := fun q => by
    rw [e2]
    have := (List.perm_middle (a := q) (l₁ := A) (l₂ := C ++ F)).symm
    simpa using this
  refine ⟨A ++ (C ++ F), ?_, hp⟩
  have e : H.set j p = H := by rw [e2, e1]
  have := hp p
  rw [e] at this
  exact hh.perm this.symm

section ops
variable {P : Program} {o : Oper} {ρ : Operand → TV} {H : Heap}

/-- As HR, and no name is given. -/
def HS (P : Program) (o : Oper) (ρ : Operand → TV) (H : Heap) (Post : FV → Heap → Prop) : Prop :=
  ∀ (Z : Ctx) (w : World) (F : Heap) (β : Nat → Nat) (ρ' : Operand → Value), HeapOK Z w (H ++ F) → (∀ y, y ∈ o.op.operands → TVR Z β (ρ y) (ρ' y)) →
    ∃ x H' v w' Z', ((execOp ρ' o).run P w = .ok (.value v) w' ∨ ((execOp ρ' o).run P w = .ok .skip w' ∧ v = undef)) ∧ Ctx.le Z Z' ∧ HeapOK Z' w' (H' ++ F) ∧ VR Z' x v ∧ Post x H' ∧ Z'.nm = Z.nm

theorem HS.hr {Post : FV → Heap → Prop} (h : HS P o ρ H Post) : HR P o ρ H Post := fun Z w F β ρ' hh hr => by
  obtain ⟨x, H', v, w', Z', h1, h2, h3, h4, h5, _⟩ := h Z w F β ρ' hh hr
  exact ⟨x, H', v, w', Z', h1, h2, h3, h4, h5⟩

/-- A load of an owned variable. -/
theorem HR_load {t : TypeId} {y : Operand} {b p n j : Nat} {cs : List FV} {x : FV} (ho : o.op = .load t y) (hy : ρ y = .v (.ptr (some (b, p)))) (hH : H[j]? = some (b, .cells cs))
    (hh : tyHas P t = true) (hn : tySize P t = some n) (hx : ldv (tyAgg P t) n cs p = some x) : HR P o ρ H fun z H' => z = x ∧ H' = H := fun Z w F β ρ' hok hr => by
  have h1 := hr y (by simp [ho, Op.operands])
  rw [hy] at h1
  have e1 := VR.ptr_inv h1
  obtain ⟨vs, ty, fr, hb, hf, hn', hv⟩ := hok.obj (b, .cells cs) (List.mem_append_left F (List.mem_of_getElem? hH))
  have hb' : w.heap[b]? = some (.cells vs ty fr) := hb
  obtain ⟨u, hu, hxu⟩ := load_ok (P := P) (t := t) (n := n) (Z := Z) (w := w) (b := b) (o := 0) (off := p) (cs := cs) (x := x) (fun i => vs.getD i undef) hh hn
    (fun i hi => ⟨by rw [cell_of hb', Nat.zero_add]; simp [Array.getD, show i < vs.size by rw [hv.len]; exact hi], hv.get i hi⟩) hx
  simp only [Nat.zero_add] at hu
  refine ⟨x, H, u, w, Z, Or.inl ?_, Ctx.le.refl Z, hok, hxu, rfl, rfl⟩
  simp [execOp, ho, e1, Instr.loadAt, Instr.sureAddr, hu]

/-- A load of an element of an owned row, or of a part of it. -/
theorem HS_loadR {t : TypeId} {y : Operand} {sz τ i q n j k : Nat} {es : List (List FV)} {e : List FV} {x : FV} (ho : o.op = .load t y) (hy : ρ y = .v (.rp sz τ i q)) (hH : H[j]? = some (τ, .row sz k es))
    (he : es[i]? = some e) (hh : tyHas P t = true) (hn : tySize P t = some n) (hx : ldv (tyAgg P t) n e q = some x) : HS P o ρ H fun z H' => z = x ∧ H' = H := fun Z w F β ρ' hok hr => by
  have h1 := hr y (by simp [ho, Op.operands])
  rw [hy] at h1
  generalize hv1 : ρ' y = v1 at h1
  cases h1 with
  | rp _ _ _ _ b hb =>
    have ho' := hok.obj (τ, .row sz k es) (List.mem_append_left F (List.mem_of_getElem? hH))
    rcases ho' with ⟨hn0, _⟩ | ⟨c, hc, vs, ty, fr, N, h1, h2, h3, h4, h5, h6, h7, h8, h9, h10, h11⟩
    · rw [hb] at hn0; cases hn0
    · rw [hb] at hc; cases hc
      have hx1 : w.heap[b]? = some (.cells vs ty fr) := by simpa [blkOf, hb] using h1
      have hlt : i < es.length := (List.getElem?_eq_some_iff.1 he).1
      have hel : e.length = sz := h8 e (List.mem_of_getElem? he)
      have hrow : i * sz + sz ≤ N * sz := by
        have : (i + 1) * sz ≤ N * sz := Nat.mul_le_mul_right sz (by omega)
        rw [Nat.add_mul] at this; omega
      obtain ⟨u, hu, hxu⟩ := load_ok (P := P) (t := t) (n := n) (Z := Z) (w := w) (b := b) (o := i * sz) (off := q) (cs := e) (x := x) (fun d => vs.getD (i * sz + d) undef) hh hn
        (fun d hd => ⟨by rw [cell_of hx1]; simp [Array.getD, show i * sz + d < vs.size by omega], by
          have := h11 i d hlt (by omega)
          simpa [List.getD, he] using this⟩) hx
      refine ⟨x, H, u, w, Z, Or.inl ?_, Ctx.le.refl Z, hok, hxu, ⟨rfl, rfl⟩, rfl⟩
      simp [execOp, ho, hv1, Instr.loadAt, Instr.sureAddr, hu]

theorem HR_loadR {t : TypeId} {y : Operand} {sz τ i q n j k : Nat} {es : List (List FV)} {e : List FV} {x : FV} (ho : o.op = .load t y) (hy : ρ y = .v (.rp sz τ i q)) (hH : H[j]? = some (τ, .row sz k es))
    (he : es[i]? = some e) (hh : tyHas P t = true) (hn : tySize P t = some n) (hx : ldv (tyAgg P t) n e q = some x) : HR P o ρ H fun z H' => z = x ∧ H' = H := (HS_loadR ho hy hH he hh hn hx).hr

/-- A store into an owned variable. -/
theorem HR_store {t : TypeId} {y z : Operand} {b p n j : Nat} {cs : List FV} {x : FV} (ho : o.op = .store t y z) (hy : ρ y = .v (.ptr (some (b, p)))) (hz : ρ z = .v x) (hH : H[j]? = some (b, .cells cs))
    (hp : x.plain = true) (hn : tySize P t = some n) (hl : x.cells.length = n) (hfit : p + n ≤ cs.length) : HR P o ρ H fun u H' => u = .und ∧ H' = H.set j (b, .cells (wrF cs p x.cells)) := fun Z w F β ρ' hok hr => by
  have h1 := hr y (by simp [ho, Op.operands])
  have h2 := hr z (by simp [ho, Op.operands])
  rw [hy] at h1
  rw [hz] at h2
  have e1 := VR.ptr_inv h1
  obtain ⟨hxc, hone⟩ := VR.plainCells h2 hp
  obtain ⟨L, hL, hperm⟩ := hok.front hH
  obtain ⟨vs, ty, fr, hb, hf, hnone, hv⟩ := hL.obj _ (List.mem_cons_self)
  have hb' : w.heap[b]? = some (.cells vs ty fr) := hb
  have hsz : (ρ' z).cells.size = n := by rw [hxc.len, hl]
  have hst := storeCells_ok (P := P) b p ty fr (ρ' z).cells.toList 0 vs w hb' (by simp [hsz, hv.len]; omega) hf hone
  have hv' : VRs Z (wrF cs p x.cells) (wr vs p (ρ' z).cells.toList) := hv.write (by simpa using hxc) (by rw [hl]; exact hfit)
  have hnew := hL.modify (p' := (b, .cells (wrF cs p x.cells))) rfl rfl (x := .cells (wr vs p (ρ' z).cells.toList) ty fr) (fun i v hi => by rw [hnone] at hi; cases hi)
    (fun m hm => by
      obtain ⟨vs2, ty2, fr2, hb2, hs2⟩ := hL.size _ _ hm
      have e := hb'.symm.trans hb2
      simp at e
      exact ⟨_, _, _, rfl, by rw [wr_size, e.1]; exact hs2⟩)
    ⟨_, ty, fr, rfl, by rw [wr_size]; exact hf, hnone, hv'⟩
  refine ⟨.und, _, undef, _, Z, Or.inr ⟨?_, rfl⟩, Ctx.le.refl Z, hnew.perm (hperm _), .und _, rfl, rfl⟩
  simp only [Nat.add_zero] at hst
  simp [execOp, ho, e1, Instr.storeAt, Instr.sureAddr, storeVar, run_sizeOf w hn, hsz, hst]

theorem VRs.of_row {Z : Ctx} {es : List (List FV)} {e : List FV} {i sz : Nat} {vs : Array Value} (he : es[i]? = some e) (hel : e.length = sz) (hlt : i < es.length) (hfit : i * sz + sz ≤ vs.size)
    (h : ∀ i j, i < es.length → j < sz → VR Z ((es.getD i []).getD j .und) (vs.getD (i * sz + j) undef)) : VRs Z e (vs.extract (i * sz) (i * sz + sz)) := by
  refine ⟨by simp; omega, fun d hd => ?_⟩
  have := h i d hlt (by omega)
  have e1 : (es.getD i []) = e := by simp [List.getD, he]
  have e2 : (vs.extract (i * sz) (i * sz + sz)).getD d undef = vs.getD (i * sz + d) undef := by
    simp only [Array.getD_eq_getD_getElem?]
    rw [Array.getElem?_extract]
    simp [show d < min (i * sz + sz) vs.size - i * sz by omega]
  rw [e1] at this
  rw [e2]; exact this

/-- A store into an element of an owned row, or a part of it. -/
theorem HS_storeR {t : TypeId} {y z : Operand} {sz τ i q n j k : Nat} {es : List (List FV)} {e : List FV} {x : FV} (ho : o.op = .store t y z) (hy : ρ y = .v (.rp sz τ i q)) (hz : ρ z = .v x) (hH : H[j]? = some (τ, .row sz k es))
    (he : es[i]? = some e) (hk : k ≤ i) (hp : x.plain = true) (hn : tySize P t = some n) (hl : x.cells.length = n) (hfit : q + n ≤ sz) :
    HS P o ρ H fun u H' => u = .und ∧ H' = H.set j (τ, .row sz k (es.set i (wrF e q x.cells))) := fun Z w F β ρ' hok hr => by
  have h1 := hr y (by simp [ho, Op.operands])
  have h2 := hr z (by simp [ho, Op.operands])
  rw [hy] at h1
  rw [hz] at h2
  obtain ⟨hxc, hone⟩ := VR.plainCells h2 hp
  generalize hv1 : ρ' y = v1 at h1
  cases h1 with
  | rp _ _ _ _ b hb =>
    obtain ⟨L, hL, hperm⟩ := hok.front hH
    have ho' := hL.obj _ (List.mem_cons_self)
    rcases ho' with ⟨hn0, _⟩ | ⟨c, hc, vs, ty, fr, N, g1, g2, g3, g4, g5, g6, g7, g8, g9, g10, g11⟩
    · rw [hb] at hn0; cases hn0
    · rw [hb] at hc; cases hc
      have hx1 : w.heap[b]? = some (.cells vs ty fr) := by simpa [blkOf, hb] using g1
      have hlt : i < es.length := (List.getElem?_eq_some_iff.1 he).1
      have hel : e.length = sz := g8 e (List.mem_of_getElem? he)
      have hrow : i * sz + sz ≤ vs.size := by
        have : (i + 1) * sz ≤ N * sz := Nat.mul_le_mul_right sz (by omega)
        rw [Nat.add_mul] at this; omega
      have hsz : (ρ' z).cells.toList.length = n := by have := hxc.len; simp; omega
      have hsz' : (ρ' z).cells.size = n := by simpa using hsz
      have hki : k * sz ≤ i * sz := Nat.mul_le_mul_right sz hk
      have hst := storeCells_ok (P := P) b (i * sz + q) ty fr (ρ' z).cells.toList 0 vs w hx1 (by omega) g2 hone
      simp only [Nat.add_zero] at hst
      have hwl : (wrF e q x.cells).length = sz := by rw [wrF_length (by omega)]; exact hel
      have hget : ∀ a d, a < (es.set i (wrF e q x.cells)).length → d < sz → VR Z (((es.set i (wrF e q x.cells)).getD a []).getD d .und) ((wr vs (i * sz + q) (ρ' z).cells.toList).getD (a * sz + d) undef) := by
        intro a d ha hd
        simp at ha
        rw [wr_get _ _ _ _ (by omega), hsz]
        by_cases hai : a = i
        · subst hai
          have e1 : ((es.set a (wrF e q x.cells)).getD a []) = wrF e q x.cells := by simp [List.getD, ha]
          rw [e1, wrF_get (by omega), hl]
          by_cases hin : q ≤ d ∧ d < q + n
          · rw [if_pos hin, if_pos (by omega)]
            have := hxc.get (d - q) (by omega)
            have e2 : (ρ' z).cells.toList.getD (a * sz + d - (a * sz + q)) undef = (ρ' z).cells.getD (d - q) undef := by
              rw [show a * sz + d - (a * sz + q) = d - q by omega]
              simp [Array.getD, List.getD, show d - q < (ρ' z).cells.size by omega]
            rw [e2]; exact this
          · rw [if_neg hin, if_neg (by omega)]
            have := g11 a d hlt hd
            have e1 : (es.getD a []) = e := by simp [List.getD, he]
            rw [e1] at this; exact this
        · have e1 : ((es.set i (wrF e q x.cells)).getD a []) = es.getD a [] := by simp [List.getD, List.getElem?_set_ne (Ne.symm hai)]
          rw [e1, if_neg]
          · exact g11 a d ha hd
          · rintro ⟨h1, h2⟩
            apply hai
            exact row_eq hd (j := a * sz + d - i * sz) (by omega) (by omega)
      have hnew := hL.modify (b := b) (p' := (τ, .row sz k (es.set i (wrF e q x.cells)))) (by simp [blkOf, hb]) (by simp [blkOf, hb]) (x := .cells (wr vs (i * sz + q) (ρ' z).cells.toList) ty fr)
        (fun d v hd => by
          refine ⟨_, ty, fr, rfl, ?_⟩
          have hdk : d < k * sz := by
            rcases Nat.lt_or_ge d (k * sz) with h | h
            · exact h
            · rw [g9 d h] at hd; cases hd
          have := g10 d hdk
          rw [this] at hd
          have hlt2 : d < (wr vs (i * sz + q) (ρ' z).cells.toList).size := by rw [wr_size]; omega
          have e3 := wr_get (ρ' z).cells.toList vs (i * sz + q) d (by omega)
          rw [if_neg (by omega)] at e3
          have e4 : (wr vs (i * sz + q) (ρ' z).cells.toList)[d]? = some ((wr vs (i * sz + q) (ρ' z).cells.toList).getD d undef) := by simp [Array.getD, hlt2]
          rw [e4, e3]; exact hd)
        (fun m hm => by rw [g4] at hm; cases hm; exact ⟨_, ty, fr, rfl, by rw [wr_size]; exact g3⟩)
        (Or.inr ⟨b, hb, _, ty, fr, N, rfl, by rw [wr_size]; exact g2, by rw [wr_size]; exact g3, g4, g5, by simpa using g6, by simpa using g7,
          fun e' he' => by
            rcases List.mem_or_eq_of_mem_set he' with h | h
            · exact g8 e' h
            · subst h; exact hwl,
          g9, fun d hd => by
            rw [g10 d hd, wr_get _ _ _ _ (by omega), if_neg (by omega)], hget⟩)
      refine ⟨.und, _, undef, _, Z, Or.inr ⟨?_, rfl⟩, Ctx.le.refl Z, hnew.perm (hperm _), .und _, ⟨rfl, rfl⟩, rfl⟩
      simp [execOp, ho, hv1, Instr.storeAt, Instr.sureAddr, storeVar, run_sizeOf w hn, hsz', hst]

theorem HR_storeR {t : TypeId} {y z : Operand} {sz τ i q n j k : Nat} {es : List (List FV)} {e : List FV} {x : FV} (ho : o.op = .store t y z) (hy : ρ y = .v (.rp sz τ i q)) (hz : ρ z = .v x) (hH : H[j]? = some (τ, .row sz k es))
    (he : es[i]? = some e) (hk : k ≤ i) (hp : x.plain = true) (hn : tySize P t = some n) (hl : x.cells.length = n) (hfit : q + n ≤ sz) :
    HR P o ρ H fun u H' => u = .und ∧ H' = H.set j (τ, .row sz k (es.set i (wrF e q x.cells))) := (HS_storeR ho hy hz hH he hk hp hn hl hfit).hr

/-- A new owned variable. -/
theorem HR_alloc {t : TypeId} {z : Value} (ho : o.op = .alloc t) (hz : zeroOf P t = some z) (hp : (ofC z).plain = true) :
    HR P o ρ H fun x H' => ∃ b, x = .ptr (some (b, 0)) ∧ H' = (b, .cells (ofC z).cells) :: H := fun Z w F β ρ' hok _ => by
  have hzr := ((VR.ofC Z z).plainCells hp).1
  have hnew := hok.alloc (x := .cells z.cells t) (p := (w.heap.size, .cells (ofC z).cells)) rfl ⟨z.cells, t, (0, 0), rfl, fun i _ => by simp, hok.cell_new, hzr⟩
  refine ⟨.ptr (some (w.heap.size, 0)), _, .pointer (some ⟨w.heap.size, 0, none⟩), w.alloc (.cells z.cells t), Z, Or.inl ?_, Ctx.le.refl Z, hnew, .ptr _ _, w.heap.size, rfl, rfl⟩
  simp [execOp, ho, Instr.alloc, zeroOf_run hz, newVar, newRow]

theorem HR_box {t : TypeId} {y : Operand} {x : FV} (ho : o.op = .box t y) (hy : ρ y = .v x) (hp : x.plain = true) :
    HR P o ρ H fun u H' => ∃ b, u = .ptr (some (b, 0)) ∧ H' = (b, .cells x.cells) :: H := fun Z w F β ρ' hok hr => by
  have h1 := hr y (by simp [ho, Op.operands])
  rw [hy] at h1
  have hzr := (VR.plainCells h1 hp).1
  have hnew := hok.alloc (x := .cells (ρ' y).cells t) (p := (w.heap.size, .cells x.cells)) rfl ⟨(ρ' y).cells, t, (0, 0), rfl, fun i _ => by simp, hok.cell_new, hzr⟩
  refine ⟨.ptr (some (w.heap.size, 0)), _, .pointer (some ⟨w.heap.size, 0, none⟩), w.alloc (.cells (ρ' y).cells t), Z, Or.inl ?_, Ctx.le.refl Z, hnew, .ptr _ _, w.heap.size, rfl, rfl⟩
  simp [execOp, ho, Instr.box, newVar, newRow]

end ops
end Go.Fs

namespace Go.Fs
open Go

/-- A name given to a block. -/
def Ctx.name (Z : Ctx) (t : Nat) (b : Option Nat) : Ctx := { Z with nm := fun u => if u = t then some b else Z.nm u }

theorem Ctx.le_name {Z : Ctx} {t : Nat} {b : Option Nat} (h : Z.nm t = none) : Ctx.le Z (Z.name t b) := by
  refine ⟨fun _ _ _ h => h, fun _ _ h => h, fun u x hx => ?_, fun _ _ h => h, rfl, rfl, rfl⟩
  by_cases e : u = t
  · subst e; rw [h] at hx; cases hx
  · simp [Ctx.name, e, hx]

theorem Ctx.name_self {Z : Ctx} {t : Nat} {b : Option Nat} : (Z.name t b).nm t = some b := by simp [Ctx.name]

theorem HeapOK.name {Z : Ctx} {w : World} {L : Heap} (h : HeapOK Z w L) {t : Nat} {b : Option Nat} (ht : Z.nm t = none) (hb : ∀ c, b = some c → True) : HeapOK (Z.name t b) w L := by
  have hle := Ctx.le_name (b := b) ht
  have hbo : ∀ p, p ∈ L → blkOf (Z.name t b) p = blkOf Z p := fun p hm => blkOf_mono hle (h.obj p hm)
  refine ⟨?_, fun p hm => ?_, fun p c hm hc => ?_, h.cell, h.size, fun u c hu => ?_, ?_, h.old, h.os, h.out, h.tape⟩
  · rw [filterMap_congr' hbo]; exact h.nodup
  · unfold ObjAt
    rw [hbo p hm]
    exact ObjRel.mono hle (fun _ _ _ => rfl) (h.obj p hm)
  · rw [hbo p hm] at hc; exact h.notOld p c hm hc
  · trivial
  · obtain ⟨m, hm⟩ := h.fresh
    refine ⟨max m (t + 1), fun u hu => ?_⟩
    have e : u ≠ t := by omega
    simp only [Ctx.name, if_neg e]
    exact hm u (by omega)

theorem HeapOK.freshName {Z : Ctx} {w : World} {L : Heap} (h : HeapOK Z w L) : ∃ t, Z.nm t = none := by
  obtain ⟨m, hm⟩ := h.fresh
  exact ⟨m, hm m (Nat.le_refl _)⟩

/-- A new row, of which the first k elements never change again. -/
theorem HeapOK.newRow {Z : Ctx} {w : World} {L : Heap} (h : HeapOK Z w L) {sz N k : Nat} {es : List (List FV)} {vs : Array Value} (ty : TypeId) (hsz : 0 < sz) (hN : vs.size = N * sz) (hle : es.length ≤ N) (hk : k ≤ es.length)
    (hel : ∀ e, e ∈ es → e.length = sz) (hv : ∀ i j, i < es.length → j < sz → VR Z ((es.getD i []).getD j .und) (vs.getD (i * sz + j) undef)) :
    ∃ t Z', Ctx.le Z Z' ∧ HeapOK Z' (w.alloc (.cells vs ty)) ((t, .row sz k es) :: L) ∧ Z'.nm t = some (some w.heap.size) ∧ Z'.size w.heap.size = some (N * sz) := by
  obtain ⟨t, ht⟩ := h.freshName
  have hkN : k * sz ≤ vs.size := by
    rw [hN]; exact Nat.mul_le_mul_right sz (by omega)
  let Z1 := Z.know w.heap.size vs.size (k * sz) vs
  have h1 : HeapOK Z1 (w.alloc (.cells vs ty)) L := h.allocKnown vs ty (k * sz) hkN
  have le1 : Ctx.le Z Z1 := Ctx.le_know h _ _ _
  have ht1 : Z1.nm t = none := ht
  let Z2 := Z1.name t (some w.heap.size)
  have h2 : HeapOK Z2 (w.alloc (.cells vs ty)) L := h1.name ht1 (fun c hc => by cases hc; simp)
  have le2 : Ctx.le Z1 Z2 := Ctx.le_name ht1
  have hs : Z2.size w.heap.size = some (N * sz) := by
    show Z1.size w.heap.size = _
    rw [← hN]; exact Ctx.know_size
  refine ⟨t, Z2, le1.trans le2, ?_, Ctx.name_self, hs⟩
  have hb : blkOf Z2 (t, .row sz k es) = some w.heap.size := by simp [blkOf, Z2, Ctx.name_self]
  refine ⟨?_, fun q hm => ?_, fun q c hm hq => ?_, h2.cell, h2.size, h2.nm, h2.fresh, h2.old, h2.os, h2.out, h2.tape⟩
  · rw [List.filterMap_cons_some hb, List.nodup_cons]
    refine ⟨fun hm => ?_, h2.nodup⟩
    obtain ⟨q, hm, e⟩ := List.mem_filterMap.1 hm
    have e' : blkOf Z q = some w.heap.size := by rw [← blkOf_mono (le1.trans le2) (h.obj q hm)]; exact e
    have := h.lt hm e'
    omega
  · rcases List.mem_cons.1 hm with e | hm
    · subst e
      unfold ObjAt
      rw [hb]
      refine Or.inr ⟨w.heap.size, Ctx.name_self, vs, ty, (0, 0), N, ?_, fun i _ => by simp, hN, hs, hsz, hle, hk, hel, fun i hi => ?_, fun i hi => ?_, fun i j hi hj => (hv i j hi hj).mono (le1.trans le2)⟩
      · exact alloc_new
      · exact Ctx.know_cell_none (n := vs.size) hi
      · exact Ctx.know_cell (n := vs.size) hi
    · exact h2.obj q hm
  · rcases List.mem_cons.1 hm with e | hm
    · subst e
      rw [hb] at hq; cases hq
      exact h.old_new
    · exact h2.notOld q c hm hq

section ops
variable {P : Program} {o : Oper} {ρ : Operand → TV} {H : Heap}

theorem HR_makeSlice {t : TypeId} {y z : Operand} {k1 k2 : IntKind} {n sz eb : Nat} {zv : Value} (ho : o.op = .makeSlice t y z) (hy : ρ y = .v (.int k1 n)) (hz : ρ z = .v (.int k2 n)) (ht : kdOf P t = 5)
    (hzv : zeroOf P (elOf P t) = some zv) (hs : eszOf P t = some sz) (heb : ebOf P t = some eb) (hp : (ofC zv).plain = true) (hzl : (ofC zv).cells.length = sz) (hsz : 0 < sz) (hn : n < LB) (hb : eb ≤ 256) :
    HR P o ρ H fun x H' => ∃ τ, x = .rsl sz τ 0 n ∧ H' = (τ, .row sz 0 (List.replicate n (ofC zv).cells)) :: H := fun Z w F β ρ' hok hr => by
  have h1 := hr y (by simp [ho, Op.operands])
  have h2 := hr z (by simp [ho, Op.operands])
  rw [hy] at h1
  rw [hz] at h2
  have e1 := (VR.int_inv h1).1
  have e2 := (VR.int_inv h2).1
  have hzr := ((VR.ofC Z zv).plainCells hp).1
  have hrows := zeroRows (n := n) hzr hzl
  have hbytes : ∃ it, P.info? (elOf P t) = some it ∧ it.bytes = eb := by
    unfold ebOf at heb
    cases hi : P.info? (elOf P t) with
    | none => simp [hi] at heb
    | some it => exact ⟨it, rfl, by simpa [hi] using heb⟩
  obtain ⟨it, hit, hib⟩ := hbytes
  have hnB : n < 68719476736 := hn
  have hw : IntKind.i64.wrap (n : Int) = n := wrap_id ⟨by omega, by omega⟩
  have hprod : (it.bytes : Int) * n ≤ 2 ^ 48 := by
    have : it.bytes * n ≤ 256 * 68719476736 := Nat.mul_le_mul (by omega) (by omega)
    have e : (2 : Int) ^ 48 = 281474976710656 := by decide
    rw [e]
    have h3 : (it.bytes : Int) * n = ((it.bytes * n : Nat) : Int) := by simp
    rw [h3]; omega
  have hrun : (execOp ρ' o).run P w = .ok (.value (.slice (some ⟨w.heap.size, 0, none⟩) n n)) (w.alloc (.cells ((Array.range (n * sz)).map (zv.cells[· % zv.cells.size]!)) (elOf P t))) := by
    have hcells : ∀ (f g : Nat → Value), n * sz = 0 → (Array.range (n * sz)).map f = (Array.range (n * sz)).map g := by
      intro f g h0; rw [h0, Array.range_zero']; simp
    by_cases h0 : n * sz = 0
    · simp only [execOp, ho, Instr.makeSlice, e1, e2, Sem.run_bind, run_underlying (und_slice ht), Result.andThen_ok, asInt, asIntOf, typeInfo, hit, run_program, Sem.run_pure, hw]
      rw [if_neg (by simp; omega)]
      have hc := hcells (fun x => zv.cells[x % zv.cells.size]!) (fun _ => undef) h0
      rw [hc]
      simp [run_sizeOf w hs, h0, Go.newRow, Array.range_zero']
    · simp only [execOp, ho, Instr.makeSlice, e1, e2, Sem.run_bind, run_underlying (und_slice ht), Result.andThen_ok, asInt, asIntOf, typeInfo, hit, run_program, Sem.run_pure, hw]
      rw [if_neg (by simp; omega)]
      simp [run_sizeOf w hs, h0, Go.newRow, zeroOf_run hzv]
  obtain ⟨τ, Z', hle, hnew, hnm, hsize⟩ := hok.newRow (N := n) (k := 0) (elOf P t) hsz (by simp) (by simp : (List.replicate n (ofC zv).cells).length ≤ n) (Nat.zero_le _) hrows.len hrows.get
  refine ⟨.rsl sz τ 0 n, _, _, _, Z', Or.inl hrun, hle, hnew, ?_, τ, rfl, rfl⟩
  have := VR.rsl (Z := Z') sz τ w.heap.size 0 n n hnm (by simpa using hsize) (Nat.le_refl _) hn
  simpa using this

end ops
end Go.Fs

namespace Go.Fs
open Go

theorem growBy_le (m : Nat) : ∀ (r c : Nat), Builtin.growBy m r c ≤ max c (m + (m + 768) / 4)
  | 0, c => by simp [Builtin.growBy]; omega
  | r + 1, c => by
    simp only [Builtin.growBy]
    split
    · omega
    · have := growBy_le m r (c + (c + 768) / 4)
      omega

theorem nextcap_le {m c : Nat} (h : c < m) : Builtin.nextslicecap m c ≤ 2 * m + 768 := by
  unfold Builtin.nextslicecap
  split
  · omega
  · split
    · omega
    · have := growBy_le m 4 c
      omega

/-- Elements that can be read off a value, one after the other. -/
structure Src (Z : Ctx) (w : World) (P : Program) (sz : Nat) (news : List (List FV)) (v : Value) : Prop where
  len : ∀ w', (Builtin.lenOf v).run P w' = .ok news.length w'
  hl : ∀ e, e ∈ news → e.length = sz
  cells : ∃ a : Array Value, (∀ w', (∀ b i, w'.cell? ⟨b, i, none⟩ = w.cell? ⟨b, i, none⟩) → (Builtin.firstCells sz news.length v).run P w' = .ok a w') ∧ a.size = news.length * sz ∧
    (∀ u, u ∈ a.toList → u.oneCell' = true) ∧ (∀ i j, i < news.length → j < sz → VR Z ((news.getD i []).getD j .und) (a.getD (i * sz + j) undef))

/-- The elements that a value stands for, where it is appended. -/
def srcEs : FV → Nat → Option (List (List FV))
  | .sl s es, sz => if s = sz then some es else none
  | .slx s es, sz => if s = sz then some es else none
  | .nilsl, _ => some []
  | .str s, 1 => some (s.map fun b => [.int .u8 b.toNat])
  | _, _ => none

theorem oneOf {Z : Ctx} {x : FV} {v : Value} (h : VR Z x v) (hx : x.one = true) : v.oneCell' = true := by
  cases h <;> first | rfl | simp [FV.one] at hx

theorem SlAt.src {Z : Ctx} {w : World} {P : Program} {sz : Nat} {es : List (List FV)} {a : Option Addr} {cap : Nat} (h : SlAt Z sz es a) (hc : ∀ b i v, Z.cell b i = some v → w.cell? ⟨b, i, none⟩ = some v)
    (h1 : ∀ e, e ∈ es → ∀ x, x ∈ e → x.one = true) : Src Z w P sz es (.slice a es.length cap) := by
  refine ⟨fun w' => by simp [Builtin.lenOf], h.len, ?_⟩
  by_cases he : es = []
  · subst he
    refine ⟨#[], fun w' hw => ?_, by simp, by simp, fun i j hi => by simp at hi⟩
    cases a with
    | none => simp [Builtin.firstCells]
    | some a =>
      have := run_loadCells (P := P) w' a 0 (fun _ => undef) (fun j hj => by omega)
      simpa [Builtin.firstCells] using this
  · obtain ⟨b, o, rfl, vs, hcell, hv⟩ := h.cells he
    refine ⟨((List.range (es.length * sz)).map vs).toArray, fun w' hw => ?_, by simp, fun u hu => ?_, fun i j hi hj => ?_⟩
    · exact run_loadCells (P := P) w' ⟨b, o, none⟩ (es.length * sz) vs (fun j hj => by rw [addr_add, hw]; exact hc _ _ _ (hcell j hj))
    · simp at hu
      obtain ⟨i, hi, rfl⟩ := hu
      have hsz : 0 < sz := by
        rcases Nat.eq_zero_or_pos sz with h | h
        · subst h; simp at hi
        · exact h
      have hi1 : i / sz < es.length := Nat.div_lt_of_lt_mul (by rw [Nat.mul_comm]; exact hi)
      have hi2 : i % sz < sz := Nat.mod_lt _ hsz
      have := hv (i / sz) (i % sz) hi1 hi2
      rw [Nat.div_add_mod' i sz] at this
      have hmem : es[i / sz] ∈ es := List.getElem_mem hi1
      have e1 : es.getD (i / sz) [] = es[i / sz] := by simp [List.getD, hi1]
      rw [e1] at this
      have hlen := h.len _ hmem
      have e2 : (es[i / sz]).getD (i % sz) .und = (es[i / sz])[i % sz]'(by omega) := by simp [List.getD, show i % sz < (es[i / sz]).length by omega]
      rw [e2] at this
      exact oneOf this (h1 _ hmem _ (List.getElem_mem _))
    · have := hv i j hi hj
      have e : ((List.range (es.length * sz)).map vs).toArray.getD (i * sz + j) undef = vs (i * sz + j) := by
        have := row_lt hi hj
        simp [Array.getD, this]
      rw [e]; exact this

theorem srcEs_ok {P : Program} {Z : Ctx} {w : World} {x : FV} {v : Value} {sz : Nat} {news : List (List FV)} (h : srcEs x sz = some news) (hv : VR Z x v) (hc : ∀ b i v, Z.cell b i = some v → w.cell? ⟨b, i, none⟩ = some v)
    (h1 : ∀ e, e ∈ news → ∀ x, x ∈ e → x.one = true) : Src Z w P sz news v := by
  unfold srcEs at h
  split at h
  · split at h
    · rename_i hs
      subst hs
      cases h
      obtain ⟨a, cap, rfl, _, hs⟩ := VR.sl_inv hv
      exact hs.src hc h1
    · cases h
  · split at h
    · rename_i hs
      subst hs
      cases h
      obtain ⟨a, rfl, hs⟩ := VR.slx_inv hv
      exact hs.src hc h1
    · cases h
  · cases h
    have := VR.nilsl_inv hv
    subst this
    exact ⟨fun w' => by simp [Builtin.lenOf], by simp, #[], fun w' _ => by simp [Builtin.firstCells], by simp, by simp, fun i j hi => by simp at hi⟩
  · cases h
    rename_i s
    obtain ⟨rfl, hs⟩ := VR.str_inv hv
    refine ⟨fun w' => by simp [Builtin.lenOf, ByteArray.size], by simp, (⟨⟨s⟩⟩ : ByteArray).data.map fun b => .int .u8 b.toNat, fun w' _ => ?_, by simp, fun u hu => ?_, fun i j hi hj => ?_⟩
    · simp only [Builtin.firstCells, List.length_map, Sem.run_pure]
      congr 2
      have : (⟨⟨s⟩⟩ : ByteArray).extract 0 s.length = ⟨⟨s⟩⟩ := by
        apply ByteArray.ext
        simp
      rw [this]
    · simp at hu
      obtain ⟨b, _, rfl⟩ := hu
      rfl
    · simp at hi
      have : j = 0 := by omega
      subst this
      have hu : ∀ c : UInt8, IntKind.u8.has c.toNat := fun c => by
        have : c.toNat < 256 := c.toNat_lt
        have h1 : IntKind.u8.min = 0 := by decide
        have h2 : IntKind.u8.max = 255 := by decide
        unfold IntKind.has; rw [h1, h2]; omega
      simp [List.getD, Array.getD, hi]
      exact .int _ _ (hu _)
  · cases h

section ops
variable {P : Program} {o : Oper} {ρ : Operand → TV} {H : Heap}

/-- A row and what is appended. -/
theorem Rows.append {Z : Ctx} {sz : Nat} {es news : List (List FV)} {vs a rest : Array Value} {n : Nat} (hn : es.length = n) (hz : a.size = news.length * sz) (hvs : n * sz ≤ vs.size)
    (h1 : ∀ i j, i < es.length → j < sz → VR Z ((es.getD i []).getD j .und) (vs.getD (i * sz + j) undef))
    (h2 : ∀ i j, i < news.length → j < sz → VR Z ((news.getD i []).getD j .und) (a.getD (i * sz + j) undef)) :
    ∀ i j, i < (es ++ news).length → j < sz → VR Z (((es ++ news).getD i []).getD j .und) ((vs.extract 0 (n * sz) ++ a ++ rest).getD (i * sz + j) undef) := by
  intro i j hi hj
  simp at hi
  have hex : (vs.extract 0 (n * sz)).size = n * sz := by simp; omega
  by_cases hc : i < es.length
  · have hlt := row_lt (n := n) (by omega : i < n) hj
    have e1 : (es ++ news).getD i [] = es.getD i [] := by simp [List.getD, List.getElem?_append_left hc]
    have e2 : (vs.extract 0 (n * sz) ++ a ++ rest).getD (i * sz + j) undef = vs.getD (i * sz + j) undef := by
      simp only [Array.getD_eq_getD_getElem?]
      rw [Array.append_assoc, Array.getElem?_append_left (by rw [hex]; exact hlt), Array.getElem?_extract]
      simp [show i * sz + j < min (n * sz) vs.size by omega]
    rw [e1, e2]; exact h1 i j hc hj
  · have hi2 : i - n < news.length := by omega
    have e1 : (es ++ news).getD i [] = news.getD (i - n) [] := by
      simp [List.getD, List.getElem?_append_right (by omega : es.length ≤ i), hn]
    have hlt := row_lt hi2 hj
    have e3 : i * sz + j - n * sz = (i - n) * sz + j := by
      have : i * sz = (i - n) * sz + n * sz := by rw [← Nat.add_mul]; congr 1; omega
      omega
    have hge : n * sz ≤ i * sz + j := by
      have : n * sz ≤ i * sz := Nat.mul_le_mul_right sz (by omega)
      omega
    have e2 : (vs.extract 0 (n * sz) ++ a ++ rest).getD (i * sz + j) undef = a.getD ((i - n) * sz + j) undef := by
      simp only [Array.getD_eq_getD_getElem?]
      rw [Array.append_assoc, Array.getElem?_append_right (by rw [hex]; exact hge), hex, e3, Array.getElem?_append_left (by rw [hz]; exact hlt)]
    rw [e1, e2]; exact h2 _ j hi2 hj

theorem run_append_grow {st xt ty : TypeId} {base : Option Addr} {n m cap sz : Nat} {xv zv : Value} {old a : Array Value} {it : TypeInfo} (w : World) (ht : kdOf P st = 5) (hxt : kdOf P xt = 5 ∨ kdOf P xt = 3)
    (hs : eszOf P st = some sz) (hit : P.info? (elOf P st) = some it) (hzv : zeroOf P (elOf P st) = some zv) (hlen : (Builtin.lenOf xv).run P w = .ok m w) (hcap : cap < n + m) (hb : Builtin.nextslicecap (n + m) cap * it.bytes ≤ 2 ^ 48)
    (hold : ∀ w', (∀ b i, w'.cell? ⟨b, i, none⟩ = w.cell? ⟨b, i, none⟩) → (Builtin.firstCells sz n (.slice base n cap)).run P w' = .ok old w')
    (hnew : ∀ w', (∀ b i, w'.cell? ⟨b, i, none⟩ = w.cell? ⟨b, i, none⟩) → (Builtin.firstCells sz m xv).run P w' = .ok a w') (hbp : 0 < it.bytes) :
    ∃ nc, n + m ≤ nc ∧ (Builtin.append_ #[st, xt] ty #[.slice base n cap, xv]).run P w = .ok (.slice (some ⟨w.heap.size, 0, none⟩) (n + m) nc)
      (w.drew.alloc (.cells (old ++ a ++ Builtin.zeroCells zv.cells (nc - (n + m))) (elOf P st))) := by
  let q := Question.appendCap (n + m) cap (elOf P st)
  have h1 := hold w.drew (fun _ _ => rfl)
  have h2 := hnew w.drew (fun _ _ => rfl)
  refine ⟨q.cut (w.tape w.drawn q), by simp only [q, Question.cut]; omega, ?_⟩
  rcases hxt with hx | hx
  · have hu := run_underlying (P := P) (und_slice hx)
    simp [Builtin.append_, run_underlying (und_slice ht), hu, run_sizeOf _ hs, hlen, typeInfo, hit, zeroOf_run hzv, show ¬ (n + m ≤ cap) by omega, show ¬ (2 ^ 48 < Builtin.nextslicecap (n + m) cap * it.bytes) by omega,
      Question.forced, h1, h2, Go.newRow, q, show ¬ it.bytes = 0 by omega]
  · have hu := run_underlying (P := P) (und_string hx)
    simp [Builtin.append_, run_underlying (und_slice ht), hu, run_sizeOf _ hs, hlen, typeInfo, hit, zeroOf_run hzv, show ¬ (n + m ≤ cap) by omega, show ¬ (2 ^ 48 < Builtin.nextslicecap (n + m) cap * it.bytes) by omega,
      Question.forced, h1, h2, Go.newRow, q, show ¬ it.bytes = 0 by omega]

theorem run_append_stay {st xt ty : TypeId} {base : Option Addr} {n m cap sz : Nat} {xv : Value} {a : Array Value} {w w' : World} (ht : kdOf P st = 5) (hxt : kdOf P xt = 5 ∨ kdOf P xt = 3)
    (hs : eszOf P st = some sz) (hlen : (Builtin.lenOf xv).run P w = .ok m w) (hcap : n + m ≤ cap) (hnew : (Builtin.firstCells sz m xv).run P w = .ok a w)
    (hst : (match base with | some b => storeCells (b.add (n * sz)) a.toList | none => pure ()).run P w = .ok () w') :
    (Builtin.append_ #[st, xt] ty #[.slice base n cap, xv]).run P w = .ok (.slice base (n + m) cap) w' := by
  rcases hxt with hx | hx
  · have hu := run_underlying (P := P) (und_slice hx)
    cases base <;> simp only at hst <;> simp [Builtin.append_, run_underlying (und_slice ht), hu, run_sizeOf _ hs, hlen, hcap, hnew] <;> first | simpa using hst | (rw [hst]; rfl)
  · have hu := run_underlying (P := P) (und_string hx)
    cases base <;> simp only at hst <;> simp [Builtin.append_, run_underlying (und_slice ht), hu, run_sizeOf _ hs, hlen, hcap, hnew] <;> first | simpa using hst | (rw [hst]; rfl)

theorem zeroCells_size (z : Array Value) (n : Nat) : (Builtin.zeroCells z n).size = n * z.size := by simp [Builtin.zeroCells]

theorem append_exec {c : Call} {st xt : TypeId} {y z : Operand} {ρ' : Operand → Value} {w w' : World} {v : Value} (ho : o.op = .call c) (hcal : c.callee = .builtin .append) (hargs : c.args = #[y, z]) (hts : c.argTypes = #[st, xt])
    (h : (Builtin.append_ #[st, xt] o.type #[ρ' y, ρ' z]).run P w = .ok v w') : (execOp ρ' o).run P w = .ok (.value v) w' := by
  simp [execOp, ho, resolve, hcal, hargs, hts, invoke, builtin, h]

/-- fr: the row's elements never change again. -/
theorem HR_append {c : Call} {st xt : TypeId} {y z : Operand} {sz τ n k j eb : Nat} {es news : List (List FV)} {x : FV} {zv : Value} (fr : Bool) (ho : o.op = .call c) (hcal : c.callee = .builtin .append) (hargs : c.args = #[y, z]) (hts : c.argTypes = #[st, xt])
    (hy : ρ y = .v (.rsl sz τ 0 n)) (hz : ρ z = .v x) (hH : H[j]? = some (τ, .row sz k es)) (hn : es.length = n) (hx : srcEs x sz = some news) (h1 : ∀ e, e ∈ news → ∀ u, u ∈ e → FV.one u = true)
    (ht : kdOf P st = 5) (hxt : kdOf P xt = 5 ∨ kdOf P xt = 3) (hs : eszOf P st = some sz) (heb : ebOf P st = some eb) (hb : 0 < eb ∧ eb ≤ 256) (hzv : zeroOf P (elOf P st) = some zv) (hzl : zv.cells.size = sz)
    (hl : (es ++ news).length < LB) :
    HR P o ρ H fun u H' => ∃ τ', u = .rsl sz τ' 0 (n + news.length) ∧ H' = H.set j (τ', .row sz (if fr then n + news.length else k) (es ++ news)) := fun Z w F β ρ' hok hr => by
  have g1 := hr y (by simp [ho, Op.operands, Call.operands, hcal, hargs])
  have g2 := hr z (by simp [ho, Op.operands, Call.operands, hcal, hargs])
  rw [hy] at g1
  rw [hz] at g2
  have hsrc := srcEs_ok (P := P) (w := w) hx g2 hok.cell h1
  obtain ⟨a, hrunA, hasz, haone, hav⟩ := hsrc.cells
  have hlen : n + news.length < 68719476736 := by simp [hn] at hl; exact hl
  have hbytes : ∃ it, P.info? (elOf P st) = some it ∧ it.bytes = eb := by
    unfold ebOf at heb
    cases hi : P.info? (elOf P st) with
    | none => simp [hi] at heb
    | some it => exact ⟨it, rfl, by simpa [hi] using heb⟩
  obtain ⟨it, hit, hib⟩ := hbytes
  obtain ⟨L, hL, hperm⟩ := hok.front hH
  have hobj := hL.obj _ (List.mem_cons_self)
  have hk' : (if fr then n + news.length else k) ≤ (es ++ news).length := by
    simp [hn]
    split
    · omega
    · rcases hobj with ⟨_, _, rfl, _⟩ | ⟨_, _, _, _, _, _, _, _, _, _, _, _, h7, _⟩ <;> omega
  have hel : ∀ e, e ∈ es ++ news → e.length = sz := fun e he => by
    rcases List.mem_append.1 he with he | he
    · rcases hobj with ⟨_, rfl, _⟩ | ⟨_, _, _, _, _, _, _, _, _, _, _, _, _, h8, _⟩
      · simp at he
      · exact h8 e he
    · exact hsrc.hl e he
  have hsz : 0 < sz := by
    rcases hobj with ⟨_, _, _, h⟩ | ⟨_, _, _, _, _, _, _, _, _, _, h, _⟩ <;> exact h
  -- a new row
  have grow : ∀ (base : Option Addr) (cap : Nat) (vs : Array Value), ρ' y = .slice base n cap → cap < n + news.length → n * sz ≤ vs.size →
      (∀ i j, i < es.length → j < sz → VR Z ((es.getD i []).getD j .und) (vs.getD (i * sz + j) undef)) →
      (∀ w', (∀ b i, w'.cell? ⟨b, i, none⟩ = w.cell? ⟨b, i, none⟩) → (Builtin.firstCells sz n (.slice base n cap)).run P w' = .ok (vs.extract 0 (n * sz)) w') →
      ∃ u H' v w' Z', ((execOp ρ' o).run P w = .ok (.value v) w' ∨ ((execOp ρ' o).run P w = .ok .skip w' ∧ v = undef)) ∧ Ctx.le Z Z' ∧ HeapOK Z' w' (H' ++ F) ∧ VR Z' u v ∧
        ∃ τ', u = .rsl sz τ' 0 (n + news.length) ∧ H' = H.set j (τ', .row sz (if fr then n + news.length else k) (es ++ news)) := by
    intro base cap vs hyv hcap hvs hval hold
    have hnc := nextcap_le hcap
    have hnb : Builtin.nextslicecap (n + news.length) cap * it.bytes ≤ 2 ^ 48 := by
      have h2 : Builtin.nextslicecap (n + news.length) cap * it.bytes ≤ (2 * 68719476736 + 768) * 256 := Nat.mul_le_mul (by omega) (by omega)
      omega
    obtain ⟨nc, hle, hrun⟩ := run_append_grow (ty := o.type) w ht hxt hs hit hzv (hsrc.len w) hcap hnb hold hrunA (by omega)
    rw [← hyv] at hrun
    have hsize : (vs.extract 0 (n * sz) ++ a ++ Builtin.zeroCells zv.cells (nc - (n + news.length))).size = nc * sz := by
      have hex : (vs.extract 0 (n * sz)).size = n * sz := by simp; omega
      rw [Array.size_append, Array.size_append, hex, hasz, zeroCells_size, hzl, ← Nat.add_mul, ← Nat.add_mul]
      congr 1; omega
    have hrow := Rows.append (Z := Z) (rest := Builtin.zeroCells zv.cells (nc - (n + news.length))) hn hasz hvs hval hav
    have hL0 : HeapOK Z w.drew L := hL.drop.drew
    obtain ⟨τ', Z', hz', hnew, hnm, hsz'⟩ := hL0.newRow (elOf P st) hsz hsize (by simp [hn]; omega) hk' hel hrow
    refine ⟨.rsl sz τ' 0 (n + news.length), _, _, _, Z', Or.inl (append_exec ho hcal hargs hts hrun), hz', hnew.perm (hperm _), ?_, τ', rfl, rfl⟩
    have := VR.rsl (Z := Z') sz τ' w.heap.size 0 (n + news.length) nc hnm (by simpa using hsz') hle hlen
    simpa using this
  rcases VR.rsl_inv g1 with ⟨b, cap, hyv, hnm, hsize, hcapn, _⟩ | ⟨a0, hyv, hnm, _, hn0⟩
  · rcases hobj with ⟨hn1, _⟩ | ⟨c', hc', vs, tyy, frr, N, r1, r2, r3, r4, r5, r6, r7, r8, r9, r10, r11⟩
    · rw [hnm] at hn1; cases hn1
    · rw [hnm] at hc'; cases hc'
      have hx1 : w.heap[b]? = some (.cells vs tyy frr) := by simpa [blkOf, hnm] using r1
      rw [r4] at hsize
      have hNcap : N = cap := by
        simp only [Option.some.injEq, Nat.zero_add] at hsize
        exact Nat.eq_of_mul_eq_mul_right hsz hsize
      subst hNcap
      have hnsz : n * sz ≤ vs.size := by rw [r3]; exact Nat.mul_le_mul_right sz (by omega)
      simp only [Nat.zero_mul] at hyv
      by_cases hcap : n + news.length ≤ N
      · -- there is room
        have hfit : n * sz + a.toList.length ≤ vs.size := by
          have h3 : (n + news.length) * sz ≤ N * sz := Nat.mul_le_mul_right sz hcap
          rw [Nat.add_mul] at h3
          simp only [Array.length_toList]; omega
        have hst := storeCells_ok (P := P) b (n * sz) tyy frr a.toList 0 vs w hx1 (by omega) r2 haone
        have hrun := run_append_stay (P := P) (ty := o.type) (base := some ⟨b, 0, none⟩) (w := w) ht hxt hs (hsrc.len w) hcap (hrunA w (fun _ _ => rfl)) (by
          show (storeCells ((⟨b, 0, none⟩ : Addr).add (n * sz)) a.toList).run P w = _
          rw [addr_add, Nat.zero_add]; exact hst)
        rw [← hyv] at hrun
        simp only [Nat.add_zero] at hrun
        have hal : a.toList.length = news.length * sz := by simpa using hasz
        -- what the block then holds
        have hvals : ∀ i d, i < (es ++ news).length → d < sz → VR Z (((es ++ news).getD i []).getD d .und) ((wr vs (n * sz) a.toList).getD (i * sz + d) undef) := by
          intro i d hi hd
          simp [hn] at hi
          rw [wr_get _ _ _ _ hfit, hal]
          by_cases hc : i < n
          · have hlt := row_lt hc hd
            rw [if_neg (by omega)]
            have e1 : (es ++ news).getD i [] = es.getD i [] := by simp [List.getD, List.getElem?_append_left (by omega : i < es.length)]
            rw [e1]; exact r11 i d (by omega) hd
          · have hi2 : i - n < news.length := by omega
            have hlt := row_lt hi2 hd
            have e3 : i * sz + d - n * sz = (i - n) * sz + d := by
              have : i * sz = (i - n) * sz + n * sz := by rw [← Nat.add_mul]; congr 1; omega
              omega
            have hge : n * sz ≤ i * sz + d := by
              have : n * sz ≤ i * sz := Nat.mul_le_mul_right sz (by omega)
              omega
            rw [if_pos (by omega), e3]
            have e1 : (es ++ news).getD i [] = news.getD (i - n) [] := by simp [List.getD, List.getElem?_append_right (by omega : es.length ≤ i), hn]
            have e2 : a.toList.getD ((i - n) * sz + d) undef = a.getD ((i - n) * sz + d) undef := by simp [List.getD, Array.getD, show (i - n) * sz + d < a.size by omega]
            rw [e1, e2]; exact hav _ d hi2 hd
        -- what is known of it
        let k2 := if fr then n + news.length else k
        have hkk : k ≤ k2 := by simp only [k2]; split <;> omega
        let Z' := Z.know b (N * sz) (k2 * sz) (wr vs (n * sz) a.toList)
        have hkeep : ∀ i, i < k * sz → (wr vs (n * sz) a.toList).getD i undef = vs.getD i undef := fun i hi => by
          have : k * sz ≤ n * sz := Nat.mul_le_mul_right sz (by omega)
          rw [wr_get _ _ _ _ hfit, if_neg (by omega)]
        have hle : Ctx.le Z Z' := Ctx.le_know' (fun i v hv => by
          have hi : i < k * sz := by
            rcases Nat.lt_or_ge i (k * sz) with h | h
            · exact h
            · rw [r9 i h] at hv; cases hv
          have hk2' : k * sz ≤ k2 * sz := Nat.mul_le_mul_right sz hkk
          rw [r10 i hi] at hv
          cases hv
          exact ⟨by omega, (hkeep i hi).symm⟩) (fun m hm => by rw [r4] at hm; cases hm; rfl)
        -- the world
        have hw1 : HeapOK Z' (World.setBlk w b (.cells (wr vs (n * sz) a.toList) tyy frr)) ((τ, .row sz k2 (es ++ news)) :: L) := by
          have hlt := heap_lt hx1
          have hnd := hL.nodup
          have hb0 : blkOf Z (τ, .row sz k es) = some b := by simp [blkOf, hnm]
          rw [List.filterMap_cons_some hb0, List.nodup_cons] at hnd
          have hne : ∀ q cc, q ∈ L → blkOf Z q = some cc → cc ≠ b := fun q cc hm hq e => hnd.1 (by subst e; exact List.mem_filterMap.2 ⟨q, hm, hq⟩)
          have hbo : ∀ q, q ∈ L → blkOf Z' q = blkOf Z q := fun q hm => blkOf_mono hle (hL.obj q (List.mem_cons_of_mem _ hm))
          have hb1 : blkOf Z' (τ, .row sz k2 (es ++ news)) = some b := by
            have : Z'.nm τ = some (some b) := hnm
            simp [blkOf, this]
          refine ⟨?_, fun q hm => ?_, fun q cc hm hq => ?_, fun cc i v hv => ?_, fun cc m hm => ?_, fun t cc hu => ?_, hL.fresh, fun cc q hq => ?_, hL.os, hL.out, hL.tape⟩
          · rw [List.filterMap_cons_some hb1, List.nodup_cons, filterMap_congr' hbo]; exact hnd
          · rcases List.mem_cons.1 hm with e | hm
            · subst e
              unfold ObjAt
              rw [hb1]
              refine Or.inr ⟨b, hnm, wr vs (n * sz) a.toList, tyy, frr, N, ?_, by rw [wr_size]; exact r2, by rw [wr_size]; exact r3, Ctx.know_size, r5, by simp [hn]; omega, hk', hel, fun i hi => Ctx.know_cell_none (n := N * sz) hi, fun i hi => Ctx.know_cell (n := N * sz) hi, fun i d hi hd => (hvals i d hi hd).mono hle⟩
              exact setBlk_same hlt
            · have hq := hL.obj q (List.mem_cons_of_mem _ hm)
              unfold ObjAt at hq ⊢
              rw [hbo q hm]
              cases hbq : blkOf Z q with
              | none => rw [hbq] at hq; exact ObjRel.mono hle (fun b' i hb' => by rw [hbq] at hb'; cases hb') hq
              | some cc =>
                rw [hbq] at hq
                show ObjRel Z' (World.setBlk w b _).heap[cc]? q
                rw [setBlk_ne (hne q cc hm hbq)]
                exact ObjRel.mono hle (fun b' i hb' => Ctx.know_cell_ne (by rw [hbq] at hb'; cases hb'; exact hne q cc hm hbq) i) hq
          · rcases List.mem_cons.1 hm with e | hm
            · subst e
              rw [hb1] at hq; cases hq
              exact hL.notOld _ b (List.mem_cons_self) hb0
            · rw [hbo q hm] at hq
              exact hL.notOld q cc (List.mem_cons_of_mem _ hm) hq
          · by_cases e : cc = b
            · subst e
              have hik : i < k2 * sz := by
                rcases Nat.lt_or_ge i (k2 * sz) with h | h
                · exact h
                · rw [Ctx.know_cell_none (n := N * sz) h] at hv; cases hv
              rw [Ctx.know_cell (n := N * sz) hik] at hv
              rw [cell_of (setBlk_same hlt)]
              have hk3 : k2 * sz ≤ N * sz := Nat.mul_le_mul_right sz (by simp [hn] at hk'; simp only [k2]; omega)
              have : i < (wr vs (n * sz) a.toList).size := by rw [wr_size]; omega
              simp [Array.getD, this] at hv
              simp [this, hv]
            · rw [Ctx.know_cell_ne e] at hv
              rw [cell_congr (setBlk_ne e)]; exact hL.cell cc i v hv
          · by_cases e : cc = b
            · subst e
              rw [Ctx.know_size] at hm; cases hm
              exact ⟨_, tyy, frr, setBlk_same hlt, by rw [wr_size]; exact r3⟩
            · rw [Ctx.know_size_ne e] at hm
              rw [setBlk_ne e]; exact hL.size cc m hm
          · trivial
          · by_cases e : cc = b
            · subst e
              have := hL.notOld _ cc (List.mem_cons_self) hb0
              have hq' : Z.old cc = some q := hq
              rw [this] at hq'; cases hq'
            · rw [setBlk_ne e]; exact hL.old cc q hq
        refine ⟨.rsl sz τ 0 (n + news.length), _, _, _, Z', Or.inl (append_exec ho hcal hargs hts hrun), hle, hw1.perm (hperm _), ?_, τ, rfl, rfl⟩
        have := VR.rsl (Z := Z') sz τ b 0 (n + news.length) N hnm (by rw [Nat.zero_add]; exact Ctx.know_size) hcap hlen
        simpa using this
      · refine grow (some ⟨b, 0, none⟩) N vs (by simpa using hyv) (by omega) hnsz r11 (fun w' hw => ?_)
        have := run_loadCells (P := P) w' ⟨b, 0, none⟩ (n * sz) (fun i => vs.getD i undef) (fun i hi => by
          rw [addr_add, hw, cell_of hx1, Nat.zero_add]
          simp [Array.getD, show i < vs.size by omega])
        simp only [Builtin.firstCells]
        rw [this]
        congr 1
        apply Array.ext_getElem?
        intro i
        simp only [List.getElem?_toArray, List.getElem?_map]
        by_cases hi : i < n * sz
        · rw [Array.getElem?_extract]
          simp [hi, Array.getD, show i < vs.size by omega, show i < min (n * sz) vs.size by omega]
        · rw [Array.getElem?_extract]
          simp [hi, show ¬ i < min (n * sz) vs.size by omega]
  · subst hn0
    have hes : es = [] := List.eq_nil_of_length_eq_zero hn
    subst hes
    by_cases hcap : 0 + news.length ≤ 0
    · -- nothing is appended
      have hnews : news = [] := List.eq_nil_of_length_eq_zero (by omega)
      subst hnews
      have ha0 : a.toList = [] := by
        have : a.size = 0 := by simpa using hasz
        simpa using this
      have hrun := run_append_stay (P := P) (ty := o.type) (base := a0) (n := 0) (w := w) (w' := w) ht hxt hs (hsrc.len w) (by simp : 0 + ([] : List (List FV)).length ≤ 0) (hrunA w (fun _ _ => rfl)) (by
        cases a0 <;> simp [ha0, storeCells])
      rw [← hyv] at hrun
      have hk0 : k = 0 := by
        rcases hobj with ⟨_, _, rfl, _⟩ | ⟨c', hc', _⟩
        · rfl
        · rw [hnm] at hc'; cases hc'
      subst hk0
      have e : H.set j (τ, .row sz (if fr then 0 + ([] : List (List FV)).length else 0) ([] ++ ([] : List (List FV)))) = H := by
        obtain ⟨A, C, e1, e2⟩ := set_split hH
        have : (if fr then 0 + ([] : List (List FV)).length else 0) = 0 := by simp
        rw [this, e2, e1]; rfl
      refine ⟨.rsl sz τ 0 0, H, _, w, Z, Or.inl (append_exec ho hcal hargs hts hrun), Ctx.le.refl Z, hok, ?_, τ, by simp, e.symm⟩
      have := VR.rsl0 (Z := Z) sz τ a0 hnm
      simpa using this
    · refine grow a0 0 #[] hyv (by omega) (by simp) (fun i d hi => by simp at hi) (fun w' _ => ?_)
      cases a0 with
      | none => simp [Builtin.firstCells]
      | some a1 =>
        have := run_loadCells (P := P) w' a1 0 (fun _ => undef) (fun j hj => by omega)
        simpa [Builtin.firstCells] using this
end ops
end Go.Fs

namespace Go.Fs
open Go

section
variable {P : Program} {k : List Item} {Ψ : St → Prop} {n : Nat} {L : List (Nat × TV)} {B : List (Nat × List FV)} {H : Heap}

/-- A state that a Rel of S is a Rel of, too. -/
theorem SW.ghost {S S' : St} (h : ∀ Z w F β a, Rel Z w F β S a → ∃ Z', Ctx.le Z Z' ∧ Rel Z' w F β S' a) (k' : SW P k Ψ S') : SW P k Ψ S := fun Z w F β a r b cs => by
  obtain ⟨Z1, h1, r1⟩ := h Z w F β a r
  obtain ⟨Z', w', β', S2, a', todo, h2, h3, h4, h5⟩ := k' Z1 w F β a r1 b cs
  exact ⟨Z', w', β', S2, a', todo, h1.trans h2, h3, h4, h5⟩

theorem RowRel.freeze {Z : Ctx} {w : World} {L : Heap} {τ b sz k : Nat} {es : List (List FV)} (hL : HeapOK Z w ((τ, .row sz k es) :: L)) (hnm : Z.nm τ = some (some b)) :
    ∃ Z', Ctx.le Z Z' ∧ HeapOK Z' w ((τ, .row sz es.length es) :: L) ∧ Z'.nm = Z.nm := by
  have hobj := hL.obj _ (List.mem_cons_self)
  rcases hobj with ⟨hn1, _⟩ | ⟨c', hc', vs, tyy, frr, N, r1, r2, r3, r4, r5, r6, r7, r8, r9, r10, r11⟩
  · rw [hnm] at hn1; cases hn1
  · rw [hnm] at hc'; cases hc'
    have hx1 : w.heap[b]? = some (.cells vs tyy frr) := by simpa [blkOf, hnm] using r1
    let Z' := Z.know b (N * sz) (es.length * sz) vs
    have hle : Ctx.le Z Z' := Ctx.le_know' (fun i v hv => by
      have hi : i < k * sz := by
        rcases Nat.lt_or_ge i (k * sz) with h | h
        · exact h
        · rw [r9 i h] at hv; cases hv
      have hk2 : k * sz ≤ es.length * sz := Nat.mul_le_mul_right sz r7
      rw [r10 i hi] at hv
      cases hv
      exact ⟨by omega, rfl⟩) (fun m hm => by rw [r4] at hm; cases hm; rfl)
    have hb0 : blkOf Z (τ, .row sz k es) = some b := by simp [blkOf, hnm]
    have hb1 : blkOf Z' (τ, .row sz es.length es) = some b := by
      have : Z'.nm τ = some (some b) := hnm
      simp [blkOf, this]
    have hnd := hL.nodup
    rw [List.filterMap_cons_some hb0, List.nodup_cons] at hnd
    have hne : ∀ q cc, q ∈ L → blkOf Z q = some cc → cc ≠ b := fun q cc hm hq e => hnd.1 (by subst e; exact List.mem_filterMap.2 ⟨q, hm, hq⟩)
    have hbo : ∀ q, q ∈ L → blkOf Z' q = blkOf Z q := fun q hm => blkOf_mono hle (hL.obj q (List.mem_cons_of_mem _ hm))
    refine ⟨Z', hle, ⟨?_, fun q hm => ?_, fun q cc hm hq => ?_, fun cc i v hv => ?_, fun cc m hm => ?_, hL.nm, hL.fresh, hL.old, hL.os, hL.out, hL.tape⟩, rfl⟩
    · rw [List.filterMap_cons_some hb1, List.nodup_cons, filterMap_congr' hbo]; exact hnd
    · rcases List.mem_cons.1 hm with e | hm
      · subst e
        unfold ObjAt
        rw [hb1]
        exact Or.inr ⟨b, hnm, vs, tyy, frr, N, hx1, r2, r3, Ctx.know_size, r5, r6, Nat.le_refl _, r8, fun i hi => Ctx.know_cell_none (n := N * sz) hi, fun i hi => Ctx.know_cell (n := N * sz) hi, fun i j hi hj => (r11 i j hi hj).mono hle⟩
      · have hq := hL.obj q (List.mem_cons_of_mem _ hm)
        unfold ObjAt at hq ⊢
        rw [hbo q hm]
        exact ObjRel.mono hle (fun b' i hb' => Ctx.know_cell_ne (hne q b' hm hb') i) hq
    · rcases List.mem_cons.1 hm with e | hm
      · subst e
        rw [hb1] at hq; cases hq
        exact hL.notOld _ b (List.mem_cons_self) hb0
      · rw [hbo q hm] at hq
        exact hL.notOld q cc (List.mem_cons_of_mem _ hm) hq
    · by_cases e : cc = b
      · subst e
        have hik : i < es.length * sz := by
          rcases Nat.lt_or_ge i (es.length * sz) with h | h
          · exact h
          · rw [Ctx.know_cell_none (n := N * sz) h] at hv; cases hv
        rw [Ctx.know_cell (n := N * sz) hik] at hv
        rw [cell_of hx1]
        have hk3 : es.length * sz ≤ N * sz := Nat.mul_le_mul_right sz r6
        have : i < vs.size := by omega
        simp [Array.getD, this] at hv
        simp [this, hv]
      · rw [Ctx.know_cell_ne e] at hv
        exact hL.cell cc i v hv
    · by_cases e : cc = b
      · subst e
        rw [Ctx.know_size] at hm; cases hm
        exact ⟨_, tyy, frr, hx1, r3⟩
      · rw [Ctx.know_size_ne e] at hm
        exact hL.size cc m hm

/-- From now on the row's elements do not change. -/
theorem SW.freeze (j : Nat) {τ sz k0 : Nat} {es : List (List FV)} (hH : H[j]? = some (τ, .row sz k0 es)) (h : SW P k Ψ ⟨n, ofL L, B, H.set j (τ, .row sz es.length es)⟩) : SW P k Ψ ⟨n, ofL L, B, H⟩ :=
  SW.ghost (fun Z w F β a r => by
    obtain ⟨M, hM, hperm⟩ := HeapOK.front (F := boxes β B ++ F) r.heap hH
    have hobj := hM.obj _ (List.mem_cons_self)
    rcases hobj with ⟨hn1, rfl, rfl, hsz⟩ | ⟨b, hnm, _⟩
    · refine ⟨Z, Ctx.le.refl Z, r.defers, r.size, ?_, r.env⟩
      exact hM.perm (hperm _)
    · obtain ⟨Z', hle, hM', _⟩ := RowRel.freeze hM hnm
      refine ⟨Z', hle, r.defers, r.size, hM'.perm (hperm _), fun i => (r.env i).mono hle⟩) h

/-- A slot that refers to a row whose elements do not change holds a plain slice. -/
theorem SW.view (i j : Nat) {τ sz k0 off len : Nat} {es : List (List FV)} (hi : ofL L i = .v (.rsl sz τ off len)) (hH : H[j]? = some (τ, .row sz k0 es)) (hk : off + len ≤ k0)
    (h : SW P k Ψ ⟨n, ofL (putL L (some i) (.v (.sl sz ((es.drop off).take len)))), B, H⟩) : SW P k Ψ ⟨n, ofL L, B, H⟩ :=
  SW.ghost (fun Z w F β a r => by
    refine ⟨Z, Ctx.le.refl Z, r.defers, r.size, r.heap, fun d => ?_⟩
    show TVR Z β (ofL (putL L (some i) (.v (.sl sz ((es.drop off).take len)))) d) _
    rw [putL, ofL_put]
    by_cases hd : d = i
    · subst hd
      rw [upd_same]
      have h0 := r.env d
      rw [show St.E ⟨n, ofL L, B, H⟩ d = .v (.rsl sz τ off len) from hi] at h0
      have hobj := r.heap.obj (τ, .row sz k0 es) (List.mem_append_left _ (List.mem_of_getElem? hH))
      generalize hv : a.tmps.getD d undef = v at h0
      rcases VR.rsl_inv h0 with ⟨b, cap, rfl, hnm, hs, hc, hb⟩ | ⟨a0, rfl, hnm, rfl, rfl⟩
      · rcases hobj with ⟨hn1, _⟩ | ⟨c', hc', vs, tyy, frr, N, r1, r2, r3, r4, r5, r6, r7, r8, r9, r10, r11⟩
        · rw [hnm] at hn1; cases hn1
        · rw [hnm] at hc'; cases hc'
          have hlen : ((es.drop off).take len).length = len := by simp; omega
          have := VR.sl (Z := Z) sz ((es.drop off).take len) b (off * sz) (fun i => vs.getD (off * sz + i) undef) cap
            (fun e he => r8 e (List.mem_of_mem_drop (List.mem_of_mem_take he)))
            (fun i hi => by
              rw [hlen] at hi
              have h3 : (off + len) * sz ≤ k0 * sz := Nat.mul_le_mul_right sz hk
              rw [Nat.add_mul] at h3
              exact r10 _ (by omega))
            (fun i j hi hj => by
              rw [hlen] at hi
              have := r11 (off + i) j (by omega) hj
              have e1 : ((es.drop off).take len).getD i [] = es.getD (off + i) [] := by simp [List.getD, hi, List.getElem?_drop]
              have e2 : off * sz + (i * sz + j) = (off + i) * sz + j := by rw [Nat.add_mul]; omega
              rw [e1]
              show VR Z _ (vs.getD (off * sz + (i * sz + j)) undef)
              rw [e2]; exact this)
            (by rw [hlen]; exact hc) (by rw [hlen]; exact hb)
          rw [hlen] at this
          exact this
      · rcases hobj with ⟨_, rfl, _⟩ | ⟨c', hc', _⟩
        · exact .slN' sz a0
        · rw [hnm] at hc'; cases hc'
    · rw [upd_ne _ _ hd]; exact r.env d) h

/-- An empty slice without room may be taken for a row. -/
theorem SW.rowOf (i : Nat) (sz : Nat) (hsz : 0 < sz) (hi : ofL L i = .v .nilsl ∨ ∃ s, ofL L i = .v (.slx s [])) (h : ∀ τ, SW P k Ψ ⟨n, ofL (putL L (some i) (.v (.rsl sz τ 0 0))), B, (τ, .row sz 0 []) :: H⟩) : SW P k Ψ ⟨n, ofL L, B, H⟩ :=
  fun Z w F β a r b cs => by
    obtain ⟨τ, hτ⟩ := r.heap.freshName
    have hh := r.heap.name (b := none) hτ (fun c hc => by cases hc)
    have hle := Ctx.le_name (b := none) hτ
    have hb : blkOf (Z.name τ none) (τ, .row sz 0 []) = none := by simp [blkOf, Ctx.name_self]
    have hnew : HeapOK (Z.name τ none) w ((τ, .row sz 0 []) :: (H ++ (boxes β B ++ F))) := by
      refine ⟨?_, fun q hm => ?_, fun q cc hm hq => ?_, hh.cell, hh.size, hh.nm, hh.fresh, hh.old, hh.os, hh.out, hh.tape⟩
      · rw [List.filterMap_cons_none hb]; exact hh.nodup
      · rcases List.mem_cons.1 hm with e | hm
        · subst e
          exact Or.inl ⟨Ctx.name_self, rfl, rfl, hsz⟩
        · exact hh.obj q hm
      · rcases List.mem_cons.1 hm with e | hm
        · subst e
          rw [hb] at hq; cases hq
        · exact hh.notOld q cc hm hq
    have hval : ∃ a0, a.tmps.getD i undef = .slice a0 0 0 := by
      have h0 := r.env i
      rcases hi with hi | ⟨s, hi⟩
      · rw [show St.E ⟨n, ofL L, B, H⟩ i = .v .nilsl from hi] at h0
        exact ⟨none, VR.nilsl_inv h0⟩
      · rw [show St.E ⟨n, ofL L, B, H⟩ i = .v (.slx s []) from hi] at h0
        obtain ⟨a0, h1, _⟩ := VR.slx_inv h0
        exact ⟨a0, h1⟩
    obtain ⟨a0, ha0⟩ := hval
    obtain ⟨Z', w', β', S2, a', todo, h2, h3, h4, h5⟩ := h τ (Z.name τ none) w F β a ⟨r.defers, r.size, hnew, fun d => by
      show TVR _ β (ofL (putL L (some i) (.v (.rsl sz τ 0 0))) d) _
      rw [putL, ofL_put]
      by_cases hd : d = i
      · subst hd
        rw [upd_same, ha0]
        exact VR.rsl0 sz τ a0 Ctx.name_self
      · rw [upd_ne _ _ hd]; exact (r.env d).mono hle⟩ b cs
    exact ⟨Z', w', β', S2, a', todo, hle.trans h2, h3, h4, h5⟩
end
end Go.Fs

namespace Go.Fs
open Go

/-- What an operation does that leaves owned memory alone: a value for its slot, and perhaps a new box. rd: it may read owned memory and boxes. -/
inductive Qual (P : Program) (rd : Bool) (o : Oper) (S : St) : TV → Option (Nat × List FV) → Prop where
  | pure (x : TV) (hd : dstOK S.n o.dst = true) (h : PR P o (ev S.E) x) (hx : ∀ s p, x = .loc s p → ∃ y q, y ∈ o.op.operands ∧ ev S.E y = .loc s q) : Qual P rd o S x none
  | ret (f : FuncId) (args : List FV) (x : FV) (hd : dstOK S.n o.dst = true) (hc : CallOf' o S.E f args) (h : Ret P f args x) : Qual P rd o S (.v x) none
  | alloc (s : Nat) (t : TypeId) (z : Value) (ho : o.op = .alloc t) (hs : o.dst = some s) (hd : Nat.blt s S.n = true) (hz : zeroOf P t = some z) (hp : (ofC z).plain = true)
      (hl : NoLoc S.E s) (hb : hasB S.B s = false) : Qual P rd o S (.loc s 0) (some (s, (ofC z).cells))
  | box (s : Nat) (t : TypeId) (y : Operand) (x : FV) (ho : o.op = .box t y) (hs : o.dst = some s) (hd : Nat.blt s S.n = true) (hy : ev S.E y = .v x) (hp : x.plain = true)
      (hl : NoLoc S.E s) (hb : hasB S.B s = false) : Qual P rd o S (.loc s 0) (some (s, x.cells))
  | loadB (t : TypeId) (y : Operand) (s p n : Nat) (cs : List FV) (x : FV) (hr : rd = true) (ho : o.op = .load t y) (hd : dstOK S.n o.dst = true) (hy : ev S.E y = .loc s p) (hc : getB S.B s = some cs)
      (hh : tyHas P t = true) (hn : tySize P t = some n) (hx : ldv (tyAgg P t) n cs p = some x) : Qual P rd o S (.v x) none
  | hread (x : FV) (hr : rd = true) (hd : dstOK S.n o.dst = true) (h : HR P o (ev S.E) S.H fun y H' => y = x ∧ H' = S.H) : Qual P rd o S (.v x) none

inductive Dirt (P : Program) (o : Oper) (S : St) (K : St → Prop) : Prop where
  | storeB (t : TypeId) (y z : Operand) (s p n : Nat) (cs : List FV) (x : FV) (ho : o.op = .store t y z) (hd : o.dst = none) (hy : ev S.E y = .loc s p) (hz : ev S.E z = .v x) (hc : getB S.B s = some cs)
      (hp : x.plain = true) (hn : tySize P t = some n) (hl : x.cells.length = n) (hfit : p + n ≤ cs.length) (k : K { S with B := setB S.B s (wrF cs p x.cells) })
  | hop (Post : FV → Heap → Prop) (hd : dstOK S.n o.dst = true) (h : HR P o (ev S.E) S.H Post) (k : ∀ x H', Post x H' → K ({ S with H := H' }.put o.dst (.v x)))
  | call (f : FuncId) (args : List FV) (H1 R : Heap) (Post : FV → Heap → Prop) (hd : dstOK S.n o.dst = true) (hc : CallOf' o S.E f args) (hp : S.H.Perm (H1 ++ R)) (h : FCall P f args H1 Post)
      (k : ∀ x H', Post x H' → K ({ S with H := H' ++ R }.put o.dst (.v x)))

/-- The state behind it. -/
def out (S : St) (d : Option Nat) (x : TV) (nb : Option (Nat × List FV)) : St := St.put { S with B := nb.toList ++ S.B } d x

theorem Dirt.mono {P : Program} {o : Oper} {S : St} {K K' : St → Prop} (hk : ∀ S', K S' → K' S') (h : Dirt P o S K) : Dirt P o S K' := by
  cases h with
  | storeB t y z s p n cs x ho hd hy hz hc hp hn hl hfit k => exact .storeB t y z s p n cs x ho hd hy hz hc hp hn hl hfit (hk _ k)
  | hop Post hd h k => exact .hop Post hd h fun x H' p => hk _ (k x H' p)
  | call f args H1 R Post hd hc hp h k => exact .call f args H1 R Post hd hc hp h fun x H' p => hk _ (k x H' p)

theorem Dirt.fop {P : Program} {o : Oper} {S : St} {K : St → Prop} (h : Dirt P o S K) : Fop P o S K := by
  cases h with
  | storeB t y z s p n cs x ho hd hy hz hc hp hn hl hfit k => exact .storeB t y z s p n cs x ho hd hy hz hc hp hn hl hfit k
  | hop Post hd h k => exact .hop Post hd h k
  | call f args H1 R Post hd hc hp h k => exact .call f args H1 R Post hd hc hp h k

theorem Qual.fop {P : Program} {rd : Bool} {o : Oper} {S : St} {K : St → Prop} {x : TV} {nb : Option (Nat × List FV)} (h : Qual P rd o S x nb) (k : K (out S o.dst x nb)) : Fop P o S K := by
  cases h with
  | pure x hd h hx => exact .pure x hd h k
  | ret f args x hd hc h => exact .ret f args x hd hc h k
  | alloc s t z ho hs hd hz hp hl hb => exact .alloc s t z ho hs hd hz hp hl hb (by rw [hs] at k; exact k)
  | box s t y x ho hs hd hy hp hl hb => exact .box s t y x ho hs hd hy hp hl hb (by rw [hs] at k; exact k)
  | loadB t y s p n cs x hr ho hd hy hc hh hn hx => exact .loadB t y s p n cs x ho hd hy hc hh hn hx k
  | hread x hr hd h => exact .hread x hd h k

def WD (P : Program) (ops : Array Oper) (dl rl : List Nat) : List Nat → (St → Prop) → St → Prop
  | [], K, S => K S
  | i :: l, K, S => match ops[i]? with
    | none => False
    | some o => match gd ops o S.E with
      | some true => match memN dl i with
        | true => Dirt P o S (WD P ops dl rl l K)
        | false => ∃ x nb, Qual P (memN rl i) o S x nb ∧ WD P ops dl rl l K (out S o.dst x nb)
      | some false => dstOK S.n o.dst = true ∧ WD P ops dl rl l K (out S o.dst (.v .und) none)
      | none => False

theorem WD.wo {P : Program} {ops : Array Oper} {dl rl : List Nat} {K : St → Prop} : ∀ (l : List Nat) {S : St}, WD P ops dl rl l K S → WO P ops l K S
  | [], _, h => h
  | i :: l, S, h => by
    simp only [WD] at h
    simp only [WO]
    cases ho : ops[i]? with
    | none => simp [ho] at h
    | some o =>
      simp only [ho] at h ⊢
      cases hg : gd ops o S.E with
      | none => simp [hg] at h
      | some b =>
        cases b with
        | true =>
          simp only [hg] at h ⊢
          cases hm : memN dl i with
          | true => simp only [hm] at h; exact Fop.monoK (fun S' h' => WD.wo l h') h.fop
          | false =>
            simp only [hm] at h
            obtain ⟨x, nb, hq, hk⟩ := h
            exact hq.fop (WD.wo l hk)
        | false =>
          simp only [hg] at h ⊢
          exact ⟨h.1, WD.wo l h.2⟩

/-- The slots that an operation looks at. -/
def looks (ops : Array Oper) (o : Oper) : List Nat :=
  (o.op.operands.toList.filterMap fun | .tmp t => some t | _ => none) ++
  (match o.guard with
   | some (g, _) => ((ops[g]?).bind (·.dst)).toList
   | none => [])

def isA (o : Oper) : Bool := match o.op with | .alloc _ => true | .box _ _ => true | _ => false

def apart (ops : Array Oper) (x y : Oper) : Bool :=
  (match x.dst with
   | some d => !(memN (looks ops y) d) && (match y.dst with | some e => !(Nat.beq d e) | none => true)
   | none => true) &&
  (match y.dst with
   | some d => !(memN (looks ops x) d)
   | none => true)

/-- x, before y in the list, may as well come behind y. -/
def delays (ops : Array Oper) (dl rl : List Nat) (i j : Nat) (x y : Oper) : Bool :=
  apart ops x y && !(memN dl i) && (!(memN rl i) || !(memN dl j)) && !(isA x && isA y)

theorem memN_iff : ∀ {l : List Nat} {i : Nat}, memN l i = true ↔ i ∈ l
  | [], i => by simp [memN]
  | k :: r, i => by
    simp only [memN, Bool.or_eq_true, List.mem_cons]
    rw [memN_iff (l := r)]
    constructor
    · rintro (h | h)
      · exact Or.inl (Nat.eq_of_beq_eq_true h).symm
      · exact Or.inr h
    · rintro (h | h)
      · subst h; exact Or.inl (Nat.beq_refl i)
      · exact Or.inr h

/-- Two environments that agree on what an operation looks at. -/
def Agree (ops : Array Oper) (o : Oper) (E E' : Nat → TV) : Prop := ∀ t, t ∈ looks ops o → E' t = E t

theorem Agree.ev {ops : Array Oper} {o : Oper} {E E' : Nat → TV} (h : Agree ops o E E') {y : Operand} (hy : y ∈ o.op.operands) : Fs.ev E' y = Fs.ev E y := by
  cases y with
  | tmp t => exact h t (by
      unfold looks
      refine List.mem_append_left _ (List.mem_filterMap.2 ⟨.tmp t, by simpa using hy, rfl⟩))
  | _ => rfl

theorem Agree.gd {ops : Array Oper} {o : Oper} {E E' : Nat → TV} (h : Agree ops o E E') : Fs.gd ops o E' = Fs.gd ops o E := by
  unfold Fs.gd
  cases hg : o.guard with
  | none => rfl
  | some g =>
    obtain ⟨j, want⟩ := g
    simp only
    cases hd : (ops[j]?).bind (·.dst) with
    | none => rfl
    | some d =>
      simp only
      rw [h d (by unfold looks; simp [hg, hd])]

theorem Agree.symm {ops : Array Oper} {o : Oper} {E E' : Nat → TV} (h : Agree ops o E E') : Agree ops o E' E := fun t ht => (h t ht).symm

theorem agree_put {ops : Array Oper} {o : Oper} {S : St} {d : Option Nat} {x : TV} (h : ∀ e, d = some e → e ∉ looks ops o) (nb : Option (Nat × List FV)) : Agree ops o S.E (out S d x nb).E := fun t ht => by
  cases d with
  | none => rfl
  | some e =>
    show upd S.E e x t = S.E t
    exact upd_ne _ _ (fun e' => h e rfl (by subst e'; exact ht))

theorem PR.congr {P : Program} {o : Oper} {ρ ρ2 : Operand → TV} {x : TV} (h : ∀ y, y ∈ o.op.operands → ρ2 y = ρ y) (hp : PR P o ρ x) : PR P o ρ2 x :=
  fun Z w L β ρ' hh hr => hp Z w L β ρ' hh (fun y hy => by rw [← h y hy]; exact hr y hy)

theorem HR.congr {P : Program} {o : Oper} {ρ ρ2 : Operand → TV} {H : Heap} {Post : FV → Heap → Prop} (h : ∀ y, y ∈ o.op.operands → ρ2 y = ρ y) (hp : HR P o ρ H Post) : HR P o ρ2 H Post :=
  fun Z w F β ρ' hh hr => hp Z w F β ρ' hh (fun y hy => by rw [← h y hy]; exact hr y hy)

theorem vals_congr {ρ ρ2 : Operand → TV} : ∀ {l : List Operand}, (∀ y, y ∈ l → ρ2 y = ρ y) → vals ρ2 l = vals ρ l
  | [], _ => rfl
  | y :: r, h => by
    simp only [vals]
    rw [h y (by simp), vals_congr (l := r) (fun z hz => h z (by simp [hz]))]

theorem CallOf'.congr {o : Oper} {E E' : Nat → TV} {f : FuncId} {args : List FV} (h : ∀ y, y ∈ o.op.operands → ev E' y = ev E y) (hc : CallOf' o E f args) : CallOf' o E' f args := by
  obtain ⟨c, fo, caps, as, ho, hcal, hfo, has, he⟩ := hc.ex
  refine ⟨c, fo, caps, as, ho, hcal, ?_, ?_, he⟩
  · rw [h fo (by simp [ho, Op.operands, Call.operands, hcal])]; exact hfo
  · rw [vals_congr (fun y hy => h y (by
      have hy' : y ∈ c.args := by simpa using hy
      simp [ho, Op.operands, Call.operands, hcal, hy']))]
    exact has

theorem upd_comm (E : Nat → TV) {d e : Nat} (x y : TV) (h : d ≠ e) : upd (upd E d x) e y = upd (upd E e y) d x := by
  funext i
  by_cases h1 : i = e
  · subst h1
    rw [upd_same, upd_ne _ _ (Ne.symm h), upd_same]
  · by_cases h2 : i = d
    · subst h2
      rw [upd_ne _ _ h1, upd_same, upd_same]
    · rw [upd_ne _ _ h1, upd_ne _ _ h2, upd_ne _ _ h2, upd_ne _ _ h1]

theorem put_comm (S : St) {d e : Option Nat} (x y : TV) (h : ∀ c, d = some c → e ≠ some c) : (S.put d x).put e y = (S.put e y).put d x := by
  cases d with
  | none => cases e <;> rfl
  | some d =>
    cases e with
    | none => rfl
    | some e =>
      show { S with E := upd (upd S.E d x) e y } = { S with E := upd (upd S.E e y) d x }
      rw [upd_comm _ _ _ (fun e' => h d rfl (by rw [e']))]

theorem out_comm (S : St) {d e : Option Nat} (x y : TV) (nb nb' : Option (Nat × List FV)) (h : ∀ c, d = some c → e ≠ some c) (hn : nb = none ∨ nb' = none) : out (out S d x nb) e y nb' = out (out S e y nb') d x nb := by
  have hB : ∀ (T : St) (B : List (Nat × List FV)) (c : Option Nat) (z : TV), { T.put c z with B := B } = St.put { T with B := B } c z := fun T B c z => by cases c <;> rfl
  unfold out
  rw [hB, hB, St.put_B, St.put_B]
  have : nb'.toList ++ (nb.toList ++ S.B) = nb.toList ++ (nb'.toList ++ S.B) := by
    rcases hn with rfl | rfl <;> simp
  simp only [this]
  exact put_comm _ x y h

theorem getB_out {S : St} {d : Option Nat} {x : TV} {nb : Option (Nat × List FV)} {s : Nat} {cs : List FV} (h : getB S.B s = some cs) (hnb : ∀ k c, nb = some (k, c) → hasB S.B k = false) : getB (out S d x nb).B s = some cs := by
  rw [show (out S d x nb).B = nb.toList ++ S.B from St.put_B _ _ _]
  cases nb with
  | none => exact h
  | some p =>
    obtain ⟨k, c⟩ := p
    have hk := hnb k c rfl
    show getB ((k, c) :: S.B) s = some cs
    simp only [getB]
    have : Nat.beq k s = false := by
      cases hb : Nat.beq k s with
      | false => rfl
      | true =>
        have e : k = s := Nat.eq_of_beq_eq_true hb
        subst e
        obtain ⟨B1, B2, e1, _⟩ := getB_split h
        exact absurd rfl (hasB_false hk (k, cs) (by rw [e1]; simp))
    rw [this]; exact h

/-- A box that is there already is not the new one. -/
theorem getB_of_out {S : St} {d : Option Nat} {x : TV} {nb : Option (Nat × List FV)} {s : Nat} {cs : List FV} (hs : ∀ k c, nb = some (k, c) → k ≠ s) (h : getB (out S d x nb).B s = some cs) : getB S.B s = some cs := by
  rw [show (out S d x nb).B = nb.toList ++ S.B from St.put_B _ _ _] at h
  cases nb with
  | none => exact h
  | some p =>
    obtain ⟨k, c⟩ := p
    have h' : getB ((k, c) :: S.B) s = some cs := h
    simp only [getB] at h'
    rw [beq_false (fun e => hs k c rfl e.symm)] at h'
    exact h'

theorem setB_out {S : St} {nb : Option (Nat × List FV)} {s : Nat} {c : List FV} (hs : ∀ k c, nb = some (k, c) → k ≠ s) : setB (nb.toList ++ S.B) s c = nb.toList ++ setB S.B s c := by
  cases nb with
  | none => rfl
  | some p =>
    obtain ⟨k, d⟩ := p
    show setB ((k, d) :: S.B) s c = (k, d) :: setB S.B s c
    simp only [setB]
    rw [beq_false (fun e => hs k d rfl e.symm)]
    rfl

theorem Qual.dst {P : Program} {rd : Bool} {o : Oper} {S : St} {x : TV} {nb : Option (Nat × List FV)} (h : Qual P rd o S x nb) : ∀ k c, nb = some (k, c) → NoLoc S.E k ∧ hasB S.B k = false ∧ isA o = true ∧ o.dst = some k := by
  intro k c e
  cases h with
  | alloc s t z ho hs hd hz hp hl hb => cases e; exact ⟨hl, hb, by simp [isA, ho], hs⟩
  | box s t y x ho hs hd hy hp hl hb => cases e; exact ⟨hl, hb, by simp [isA, ho], hs⟩
  | _ => cases e

/-- What an operation gives does not depend on another's slot and box. -/
theorem Qual.move {P : Program} {ops : Array Oper} {rd : Bool} {o : Oper} {S S1 : St} {x : TV} {nb : Option (Nat × List FV)} (h : Qual P rd o S x nb) (hn : S1.n = S.n) (ha : Agree ops o S.E S1.E) (hH : rd = true → S1.H = S.H)
    (hB : rd = true → ∀ s cs, (∃ y q, y ∈ o.op.operands ∧ ev S.E y = .loc s q) → getB S.B s = some cs → getB S1.B s = some cs) (hA : ∀ k c, nb = some (k, c) → NoLoc S1.E k ∧ hasB S1.B k = false) : Qual P rd o S1 x nb := by
  have he : ∀ y, y ∈ o.op.operands → ev S1.E y = ev S.E y := fun y hy => ha.ev hy
  cases h with
  | pure x hd h hx => exact .pure x (by rw [hn]; exact hd) (h.congr he) (fun s p e => by
      obtain ⟨y, q, hy, hq⟩ := hx s p e
      exact ⟨y, q, hy, by rw [he y hy]; exact hq⟩)
  | ret f args x hd hc h => exact .ret f args x (by rw [hn]; exact hd) (hc.congr he) h
  | alloc s t z ho hs hd hz hp hl hb => exact .alloc s t z ho hs (by rw [hn]; exact hd) hz hp (hA _ _ rfl).1 (hA _ _ rfl).2
  | box s t y x ho hs hd hy hp hl hb => exact .box s t y x ho hs (by rw [hn]; exact hd) (by rw [he y (by simp [ho, Op.operands])]; exact hy) hp (hA _ _ rfl).1 (hA _ _ rfl).2
  | loadB t y s p n cs x hr ho hd hy hc hh hn' hx =>
    have hy' : y ∈ o.op.operands := by simp [ho, Op.operands]
    exact .loadB t y s p n cs x hr ho (by rw [hn]; exact hd) (by rw [he y hy']; exact hy) (hB hr s cs ⟨y, p, hy', hy⟩ hc) hh hn' hx
  | hread x hr hd h =>
    refine .hread x hr (by rw [hn]; exact hd) ?_
    rw [hH hr]
    exact h.congr he

end Go.Fs

namespace Go.Fs
open Go

section
variable {P : Program} {ops : Array Oper} {dl rl : List Nat}

/-- An operation is carried out, or passed over, and leaves owned memory alone. -/
def Q1 (P : Program) (ops : Array Oper) (dl rl : List Nat) (i : Nat) (o : Oper) (S : St) (x : TV) (nb : Option (Nat × List FV)) : Prop :=
  (gd ops o S.E = some true ∧ memN dl i = false ∧ Qual P (memN rl i) o S x nb) ∨ (gd ops o S.E = some false ∧ dstOK S.n o.dst = true ∧ x = .v .und ∧ nb = none)

theorem Q1.wd {i : Nat} {o : Oper} {S : St} {x : TV} {nb : Option (Nat × List FV)} {l : List Nat} {K : St → Prop} (ho : ops[i]? = some o) (h : Q1 P ops dl rl i o S x nb) (k : WD P ops dl rl l K (out S o.dst x nb)) : WD P ops dl rl (i :: l) K S := by
  simp only [WD, ho]
  rcases h with ⟨h1, h2, h3⟩ | ⟨h1, h2, rfl, rfl⟩
  · simp only [h1, h2]; exact ⟨x, nb, h3, k⟩
  · simp only [h1]; exact ⟨h2, k⟩

theorem WD.inv {i : Nat} {o : Oper} {S : St} {l : List Nat} {K : St → Prop} (ho : ops[i]? = some o) (h : WD P ops dl rl (i :: l) K S) :
    (∃ x nb, Q1 P ops dl rl i o S x nb ∧ WD P ops dl rl l K (out S o.dst x nb)) ∨ (gd ops o S.E = some true ∧ memN dl i = true ∧ Dirt P o S (WD P ops dl rl l K)) := by
  simp only [WD, ho] at h
  cases hg : gd ops o S.E with
  | none => simp [hg] at h
  | some b =>
    cases b with
    | true =>
      simp only [hg] at h
      cases hm : memN dl i with
      | true => simp only [hm] at h; exact Or.inr ⟨rfl, rfl, h⟩
      | false =>
        simp only [hm] at h
        obtain ⟨x, nb, hq, hk⟩ := h
        exact Or.inl ⟨x, nb, Or.inl ⟨hg, hm, hq⟩, hk⟩
    | false =>
      simp only [hg] at h
      exact Or.inl ⟨_, _, Or.inr ⟨hg, h.1, rfl, rfl⟩, h.2⟩

theorem out_n (S : St) (d : Option Nat) (x : TV) (nb : Option (Nat × List FV)) : (out S d x nb).n = S.n := St.put_n _ _ _
theorem out_H (S : St) (d : Option Nat) (x : TV) (nb : Option (Nat × List FV)) : (out S d x nb).H = S.H := St.put_H _ _ _
theorem out_B (S : St) (d : Option Nat) (x : TV) (nb : Option (Nat × List FV)) : (out S d x nb).B = nb.toList ++ S.B := St.put_B _ _ _

theorem Q1.box {i : Nat} {o : Oper} {S : St} {x : TV} {nb : Option (Nat × List FV)} (h : Q1 P ops dl rl i o S x nb) : ∀ k c, nb = some (k, c) → NoLoc S.E k ∧ hasB S.B k = false ∧ isA o = true ∧ o.dst = some k := by
  rcases h with ⟨_, _, h⟩ | ⟨_, _, _, rfl⟩
  · exact h.dst
  · intro k c e; cases e

/-- Where a pointer into a box comes from. -/
theorem Q1.loc {i : Nat} {o : Oper} {S : St} {x : TV} {nb : Option (Nat × List FV)} (h : Q1 P ops dl rl i o S x nb) {s p : Nat} (e : x = .loc s p) : (∃ y q, y ∈ o.op.operands ∧ ev S.E y = .loc s q) ∨ (∃ c, nb = some (s, c)) := by
  rcases h with ⟨_, _, h⟩ | ⟨_, _, rfl, _⟩
  · cases h with
    | pure x hd h hx => exact Or.inl (hx s p e)
    | alloc s' t z ho hs hd hz hp hl hb => cases e; exact Or.inr ⟨_, rfl⟩
    | box s' t y x ho hs hd hy hp hl hb => cases e; exact Or.inr ⟨_, rfl⟩
    | _ => cases e
  · cases e

theorem Q1.move {i : Nat} {o : Oper} {S S1 : St} {x : TV} {nb : Option (Nat × List FV)} (h : Q1 P ops dl rl i o S x nb) (hn : S1.n = S.n) (ha : Agree ops o S.E S1.E) (hH : memN rl i = true → S1.H = S.H)
    (hB : memN rl i = true → ∀ s cs, (∃ y q, y ∈ o.op.operands ∧ ev S.E y = .loc s q) → getB S.B s = some cs → getB S1.B s = some cs) (hA : ∀ k c, nb = some (k, c) → NoLoc S1.E k ∧ hasB S1.B k = false) : Q1 P ops dl rl i o S1 x nb := by
  rcases h with ⟨h1, h2, h3⟩ | ⟨h1, h2, h3, h4⟩
  · exact Or.inl ⟨by rw [ha.gd]; exact h1, h2, h3.move hn ha hH hB hA⟩
  · exact Or.inr ⟨by rw [ha.gd]; exact h1, by rw [hn]; exact h2, h3, h4⟩

theorem ev_loc_tmp {E : Nat → TV} {y : Operand} {s q : Nat} (h : ev E y = .loc s q) : ∃ t, E t = .loc s q := by
  cases y with
  | tmp t => exact ⟨t, h⟩
  | const c => cases h
  | global g => cases h
  | func f => cases h

theorem hasB_setB : ∀ (B : List (Nat × List FV)) (s k : Nat) (c : List FV), hasB (setB B s c) k = hasB B k
  | [], _, _, _ => rfl
  | (k', c') :: r, s, k, c => by
    simp only [setB]
    cases hb : Nat.beq k' s with
    | true => simp [hasB]
    | false => simp only [cond_false, hasB, hasB_setB r s k c]

theorem apart_spec {x y : Oper} (h : apart ops x y = true) : (∀ d, x.dst = some d → d ∉ looks ops y) ∧ (∀ d, x.dst = some d → y.dst ≠ some d) ∧ (∀ d, y.dst = some d → d ∉ looks ops x) := by
  unfold apart at h
  simp only [Bool.and_eq_true] at h
  obtain ⟨h1, h2⟩ := h
  refine ⟨fun d hd => ?_, fun d hd => ?_, fun d hd => ?_⟩
  · simp only [hd, Bool.and_eq_true, Bool.not_eq_true'] at h1
    intro hm
    rw [memN_iff.2 hm] at h1; simp at h1
  · simp only [hd, Bool.and_eq_true] at h1
    intro e
    simp [e] at h1
  · simp only [hd, Bool.not_eq_true'] at h2
    intro hm
    rw [memN_iff.2 hm] at h2; simp at h2

/-- Neighbours exchanged. -/
theorem WD.swap {i j : Nat} {x y : Oper} {S : St} {l : List Nat} {K : St → Prop} (hi : ops[i]? = some x) (hj : ops[j]? = some y) (hd : delays ops dl rl i j x y = true) (hfr : ∀ d, x.dst = some d → ∀ s p, S.E d ≠ .loc s p)
    (h : WD P ops dl rl (i :: j :: l) K S) : WD P ops dl rl (j :: i :: l) K S := by
  unfold delays at hd
  simp only [Bool.and_eq_true, Bool.not_eq_true', Bool.or_eq_true] at hd
  obtain ⟨⟨⟨hap, hidl⟩, hrd⟩, hAA⟩ := hd
  obtain ⟨ap1, ap2, ap3⟩ := apart_spec hap
  rcases h.inv hi with ⟨a, nb, hq, hk⟩ | ⟨_, hdl, _⟩
  case inr => rw [hdl] at hidl; cases hidl
  have hbx := hq.box
  have agJ : Agree ops y S.E (out S x.dst a nb).E := agree_put ap1 nb
  rcases hk.inv hj with ⟨b, nb', hq', hk'⟩ | ⟨hg', hdl', hdirt⟩
  · -- both leave owned memory alone
    have hbx' := hq'.box
    have hnn : nb = none ∨ nb' = none := by
      cases nb with
      | none => exact Or.inl rfl
      | some p =>
        cases nb' with
        | none => exact Or.inr rfl
        | some p' =>
          have h1 := (hbx p.1 p.2 rfl).2.2.1
          have h2 := (hbx' p'.1 p'.2 rfl).2.2.1
          rw [h1, h2] at hAA; simp at hAA
    -- the second one now
    have hJ : Q1 P ops dl rl j y S b nb' := hq'.move (out_n _ _ _ _).symm agJ.symm (fun _ => (out_H _ _ _ _).symm)
      (fun _ s cs ⟨z, q, hz, hzq⟩ hgb => by
        refine getB_of_out (fun k c e => ?_) hgb
        rw [← agJ.symm.ev hz] at hzq
        obtain ⟨t, ht⟩ := ev_loc_tmp hzq
        intro e'
        subst e'
        exact (hbx k c e).1 t q ht)
      (fun k c e => by
        have hb := hbx' k c e
        refine ⟨fun t p ht => ?_, ?_⟩
        · cases hxd : x.dst with
          | none =>
            refine hb.1 t p ?_
            rw [hxd]; exact ht
          | some d =>
            by_cases htd : t = d
            · subst htd; exact hfr t hxd k p ht
            · refine hb.1 t p ?_
              rw [hxd]
              show upd S.E d a t = _
              rw [upd_ne _ _ htd]; exact ht
        · have := hb.2.1
          rw [out_B] at this
          rcases hnn with rfl | h0
          · exact this
          · rw [h0] at e; cases e)
    -- and the first one behind it
    have agI : Agree ops x S.E (out S y.dst b nb').E := agree_put ap3 nb'
    have hI : Q1 P ops dl rl i x (out S y.dst b nb') a nb := hq.move (out_n _ _ _ _) agI (fun _ => out_H _ _ _ _)
      (fun _ s cs _ hgb => getB_out hgb (fun k c e => (hJ.box k c e).2.1))
      (fun k c e => by
        have hb := hbx k c e
        refine ⟨fun t p ht => ?_, ?_⟩
        · cases hyd : y.dst with
          | none => rw [hyd] at ht; exact hb.1 t p ht
          | some d =>
            rw [hyd] at ht
            by_cases htd : t = d
            · subst htd
              have ht' : upd S.E t b t = .loc k p := ht
              rw [upd_same] at ht'
              rcases hJ.loc ht' with ⟨z, q, hz, hzq⟩ | ⟨c', hc'⟩
              · obtain ⟨u, hu⟩ := ev_loc_tmp hzq
                exact hb.1 u q hu
              · rcases hnn with h0 | h0
                · rw [h0] at e; cases e
                · rw [h0] at hc'; cases hc'
            · have ht' : upd S.E d b t = .loc k p := ht
              rw [upd_ne _ _ htd] at ht'
              exact hb.1 t p ht'
        · rw [out_B]
          rcases hnn with h0 | h0
          · rw [h0] at e; cases e
          · rw [h0]; exact hb.2.1)
    refine hJ.wd hj (hI.wd hi ?_)
    rw [← out_comm S a b nb nb' ap2 hnn]
    exact hk'
  · -- the second one turns owned memory
    have hirl : memN rl i = false := by
      rcases hrd with h | h
      · exact h
      · rw [hdl'] at h; cases h
    have he : ∀ z, z ∈ y.op.operands → ev S.E z = ev (out S x.dst a nb).E z := fun z hz => (agJ.ev hz).symm
    have hd1 : ∀ {T : St} {u : FV} {H' : Heap}, T = { S with H := H' } → WD P ops dl rl l K (St.put { out S x.dst a nb with H := H' } y.dst (.v u)) → WD P ops dl rl (i :: l) K (T.put y.dst (.v u)) := by
      intro T u H' hT hk'
      subst hT
      have ag1 : Agree ops x S.E (St.put { S with H := H' } y.dst (.v u)).E := by
        have := agree_put (S := { S with H := H' }) (d := y.dst) (x := .v u) ap3 none
        exact this
      refine (hq.move (S1 := St.put { S with H := H' } y.dst (.v u)) (St.put_n _ _ _) ag1 (fun h => by rw [hirl] at h; cases h) (fun h => by rw [hirl] at h; cases h) (fun k c e => ?_)).wd hi ?_
      · have hb := hbx k c e
        refine ⟨fun t p ht => ?_, by rw [St.put_B]; exact hb.2.1⟩
        cases hyd : y.dst with
        | none => rw [hyd] at ht; exact hb.1 t p ht
        | some d =>
          rw [hyd] at ht
          by_cases htd : t = d
          · subst htd
            have ht' : upd S.E t (.v u) t = .loc k p := ht
            rw [upd_same] at ht'; cases ht'
          · have ht' : upd S.E d (.v u) t = .loc k p := ht
            rw [upd_ne _ _ htd] at ht'
            exact hb.1 t p ht'
      · have e : out (St.put { S with H := H' } y.dst (.v u)) x.dst a nb = St.put { out S x.dst a nb with H := H' } y.dst (.v u) := by
          have h1 := out_comm { S with H := H' } a (.v u) nb none ap2 (Or.inr rfl)
          have h2 : out { S with H := H' } x.dst a nb = { out S x.dst a nb with H := H' } := by
            unfold out
            cases x.dst <;> rfl
          have h3 : ∀ T : St, out T y.dst (.v u) none = St.put T y.dst (.v u) := fun T => by
            unfold out; rfl
          rw [h2, h3, h3] at h1
          exact h1.symm
        rw [e]; exact hk'
    have hgS : gd ops y S.E = some true := by rw [← agJ.gd]; exact hg'
    simp only [WD, hj, hgS, hdl']
    cases hdirt with
    | storeB t z1 z2 s p n cs v ho hdst hy hz hc hp hn hl hfit k =>
      have m1 : z1 ∈ y.op.operands := by simp [ho, Op.operands]
      have m2 : z2 ∈ y.op.operands := by simp [ho, Op.operands]
      have hy' : ev S.E z1 = .loc s p := by rw [he z1 m1]; exact hy
      have hks : ∀ k c, nb = some (k, c) → k ≠ s := fun k' c e e' => by
        obtain ⟨u, hu⟩ := ev_loc_tmp hy'
        rw [← e'] at hu
        exact (hbx k' c e).1 u p hu
      have hc' : getB S.B s = some cs := getB_of_out hks hc
      refine .storeB t z1 z2 s p n cs v ho hdst hy' (by rw [he z2 m2]; exact hz) hc' hp hn hl hfit ?_
      refine (hq.move (S1 := { S with B := setB S.B s (wrF cs p v.cells) }) rfl (fun _ _ => rfl) (fun _ => rfl) (fun h => by rw [hirl] at h; cases h) (fun k c e => ⟨(hbx k c e).1, by rw [hasB_setB]; exact (hbx k c e).2.1⟩)).wd hi ?_
      have e : out { S with B := setB S.B s (wrF cs p v.cells) } x.dst a nb = { out S x.dst a nb with B := setB (out S x.dst a nb).B s (wrF cs p v.cells) } := by
        rw [out_B, setB_out hks]
        unfold out
        cases x.dst <;> rfl
      rw [e]; exact k
    | hop Post hdst h k =>
      refine .hop Post (by rw [out_n] at hdst; exact hdst) ?_ (fun u H' hp => hd1 rfl (k u H' hp))
      rw [out_H] at h
      exact h.congr he
    | call f args H1 R Post hdst hc hp h k =>
      refine .call f args H1 R Post (by rw [out_n] at hdst; exact hdst) (hc.congr he) (by rw [out_H] at hp; exact hp) h (fun u H' hpo => hd1 rfl (k u H' hpo))

/-- j must come behind i. -/
def pre (ops : Array Oper) (i j : Nat) : Bool := match ops[j]? with
  | some o => o.after.toList.any fun e => Region.binds .any e && Nat.beq e.on i
  | none => false

def dstNe (x y : Oper) : Bool := match x.dst, y.dst with
  | some d, some e => !(Nat.beq d e)
  | _, _ => true

def okPair (ops : Array Oper) (dl rl : List Nat) (i j : Nat) : Bool := match ops[i]?, ops[j]? with
  | some x, some y => dstNe x y && (pre ops i j || delays ops dl rl i j x y)
  | _, _ => false

def okPairs (ops : Array Oper) (dl rl : List Nat) : List Nat → Bool
  | [] => true
  | i :: l => l.all (okPair ops dl rl i) && okPairs ops dl rl l

/-- All bindings lead back. -/
def backwards (ops : Array Oper) : Bool := (List.range ops.size).all fun j => match ops[j]? with
  | some o => o.after.toList.all fun e => !(Region.binds .any e) || Nat.blt e.on j
  | none => true

def distinctN : List Nat → Bool
  | [] => true
  | k :: r => !(memN r k) && distinctN r

/-- That an order may stand for all others. -/
def drawOK (ops : Array Oper) (dl rl π : List Nat) : Bool :=
  okPairs ops dl rl π && backwards ops && distinctN π && Nat.beq π.length ops.size && π.all (fun i => Nat.blt i ops.size) && (List.range ops.size).all (memN π)

/-- The slots that are written do not point into boxes before. -/
def Fresh (ops : Array Oper) (l : List Nat) (S : St) : Prop := ∀ i o d, i ∈ l → ops[i]? = some o → o.dst = some d → ∀ s p, S.E d ≠ .loc s p

theorem Dirt.mono' {P : Program} {o : Oper} {S : St} {K K' : St → Prop} (hk : ∀ S', (∀ d, o.dst ≠ some d → S'.E d = S.E d) → K S' → K' S') (h : Dirt P o S K) : Dirt P o S K' := by
  have put : ∀ (T : St) (u : TV), T.E = S.E → ∀ d, o.dst ≠ some d → (T.put o.dst u).E d = S.E d := fun T u hT d hd => by
    cases ho : o.dst with
    | none => show T.E d = _; rw [hT]
    | some e =>
      show upd T.E e u d = _
      rw [upd_ne _ _ (fun e' => hd (by rw [ho, e']))]
      rw [hT]
  cases h with
  | storeB t y z s p n cs x ho hd hy hz hc hp hn hl hfit k => exact .storeB t y z s p n cs x ho hd hy hz hc hp hn hl hfit (hk _ (fun _ _ => rfl) k)
  | hop Post hd h k => exact .hop Post hd h fun x H' p => hk _ (put _ _ rfl) (k x H' p)
  | call f args H1 R Post hd hc hp h k => exact .call f args H1 R Post hd hc hp h fun x H' p => hk _ (put _ _ rfl) (k x H' p)

theorem out_E {S : St} {o : Oper} {x : TV} {nb : Option (Nat × List FV)} : ∀ d, o.dst ≠ some d → (out S o.dst x nb).E d = S.E d := fun d hd => by
  cases ho : o.dst with
  | none => rfl
  | some e =>
    show upd S.E e x d = _
    rw [upd_ne _ _ (fun e' => hd (by rw [ho, e']))]

/-- Under an operation. -/
theorem WD.under {i : Nat} {l l' : List Nat} {K : St → Prop} {S : St} (h : WD P ops dl rl (i :: l) K S)
    (hk : ∀ o, ops[i]? = some o → ∀ S', (∀ d, o.dst ≠ some d → S'.E d = S.E d) → WD P ops dl rl l K S' → WD P ops dl rl l' K S') : WD P ops dl rl (i :: l') K S := by
  cases ho : ops[i]? with
  | none => simp [WD, ho] at h
  | some o =>
    rcases h.inv ho with ⟨x, nb, hq, hw⟩ | ⟨hg, hm, hd⟩
    · exact hq.wd ho (hk o ho _ out_E hw)
    · simp only [WD, ho, hg, hm]
      exact hd.mono' (hk o ho)

theorem WD.wo1 {i : Nat} {l l' : List Nat} {K : St → Prop} {S : St} (h : WD P ops dl rl (i :: l) K S)
    (hk : ∀ o, ops[i]? = some o → ∀ S', (∀ d, o.dst ≠ some d → S'.E d = S.E d) → WD P ops dl rl l K S' → WO P ops l' K S') : WO P ops (i :: l') K S := by
  cases ho : ops[i]? with
  | none => simp [WD, ho] at h
  | some o =>
    simp only [WO, ho]
    rcases h.inv ho with ⟨x, nb, hq, hw⟩ | ⟨hg, hm, hd⟩
    · have := hk o ho _ out_E hw
      rcases hq with ⟨h1, h2, h3⟩ | ⟨h1, h2, rfl, rfl⟩
      · simp only [h1]; exact h3.fop this
      · simp only [h1]; exact ⟨h2, this⟩
    · simp only [hg]
      exact (hd.mono' (hk o ho)).fop

theorem okPair_spec {i j : Nat} (h : okPair ops dl rl i j = true) : ∃ x y, ops[i]? = some x ∧ ops[j]? = some y ∧ (∀ d, x.dst = some d → y.dst ≠ some d) ∧ (pre ops i j = true ∨ delays ops dl rl i j x y = true) := by
  unfold okPair at h
  cases hx : ops[i]? with
  | none => simp [hx] at h
  | some x =>
    cases hy : ops[j]? with
    | none => simp [hx, hy] at h
    | some y =>
      simp only [hx, hy, Bool.and_eq_true, Bool.or_eq_true] at h
      refine ⟨x, y, rfl, rfl, fun d hd e => ?_, h.2⟩
      have := h.1
      simp [dstNe, hd, e] at this

theorem Fresh.after {i : Nat} {l : List Nat} {S S' : St} {o : Oper} (hf : Fresh ops l S) (ho : ops[i]? = some o) (hd : ∀ j, j ∈ l → okPair ops dl rl i j = true ∨ okPair ops dl rl j i = true)
    (hE : ∀ d, o.dst ≠ some d → S'.E d = S.E d) : Fresh ops l S' := fun j y d hj hy hyd s p => by
  rw [hE d]
  · exact hf j y d hj hy hyd s p
  · intro e
    rcases hd j hj with h | h
    · obtain ⟨x', y', h1, h2, h3, _⟩ := okPair_spec h
      rw [ho] at h1; cases h1
      rw [hy] at h2; cases h2
      exact h3 d e hyd
    · obtain ⟨x', y', h1, h2, h3, _⟩ := okPair_spec h
      rw [hy] at h1; cases h1
      rw [ho] at h2; cases h2
      exact h3 d hyd e

/-- An operation of the list brought to its front. -/
theorem WD.front {i : Nat} {l2 : List Nat} {K : St → Prop} : ∀ (l1 : List Nat) {S : St}, okPairs ops dl rl (l1 ++ i :: l2) = true → (∀ k, k ∈ l1 → pre ops k i = false) → Fresh ops (l1 ++ i :: l2) S →
    WD P ops dl rl (l1 ++ i :: l2) K S → WD P ops dl rl (i :: (l1 ++ l2)) K S
  | [], _, _, _, _, h => h
  | k :: l1, S, hp, hn, hf, h => by
    simp only [List.cons_append, okPairs, Bool.and_eq_true, List.all_eq_true] at hp
    have hki := hp.1 i (by simp)
    obtain ⟨x, y, hx, hy, hxy, hor⟩ := okPair_spec hki
    have hdel : delays ops dl rl k i x y = true := by
      rcases hor with h' | h'
      · rw [hn k (by simp)] at h'; cases h'
      · exact h'
    have h1 : WD P ops dl rl (k :: i :: (l1 ++ l2)) K S := by
      have h' : WD P ops dl rl (k :: (l1 ++ i :: l2)) K S := h
      refine h'.under fun o ho S' hE hw => ?_
      refine WD.front l1 hp.2 (fun k' hk' => hn k' (by simp [hk'])) ?_ hw
      have hf' : Fresh ops (l1 ++ i :: l2) S := fun j y d hj => hf j y d (by simp at hj ⊢; exact Or.inr hj)
      exact hf'.after ho (fun j hj => Or.inl (hp.1 j hj)) hE
    exact WD.swap hx hy hdel (fun d hd s p => hf k x d (by simp) hx hd s p) h1

theorem okPairs_split {i : Nat} {l2 : List Nat} : ∀ (l1 : List Nat), okPairs ops dl rl (l1 ++ i :: l2) = true → okPairs ops dl rl (l1 ++ l2) = true ∧ (∀ j, j ∈ l1 → okPair ops dl rl j i = true) ∧ ∀ j, j ∈ l2 → okPair ops dl rl i j = true
  | [], h => by
    simp only [List.nil_append, okPairs, Bool.and_eq_true, List.all_eq_true] at h
    exact ⟨h.2, by simp, h.1⟩
  | k :: l1, h => by
    simp only [List.cons_append, okPairs, Bool.and_eq_true, List.all_eq_true] at h
    obtain ⟨h1, h2, h3⟩ := okPairs_split l1 h.2
    refine ⟨?_, ?_, h3⟩
    · simp only [List.cons_append, okPairs, Bool.and_eq_true, List.all_eq_true]
      exact ⟨fun j hj => h.1 j (by simp at hj ⊢; rcases hj with h | h <;> simp [h]), h1⟩
    · intro j hj
      rcases List.mem_cons.1 hj with rfl | hj
      · exact h.1 i (by simp)
      · exact h2 j hj

theorem backwards_spec (h : backwards ops = true) {j : Nat} {o : Oper} (ho : ops[j]? = some o) : ∀ e ∈ o.after, Region.binds .any e = true → e.on < j := fun e he hb => by
  unfold backwards at h
  simp only [List.all_eq_true, List.mem_range] at h
  have hlt : j < ops.size := (Array.getElem?_eq_some_iff.1 ho).1
  have h1 := h j hlt
  rw [ho] at h1
  simp only [List.all_eq_true] at h1
  have h2 := h1 e (by simpa using he)
  rw [hb] at h2
  exact Nat.le_of_ble_eq_true (by simpa [Nat.blt] using h2)

theorem exists_least : ∀ {l : List Nat}, l ≠ [] → ∃ i, i ∈ l ∧ ∀ j, j ∈ l → i ≤ j
  | [], h => absurd rfl h
  | [i], _ => ⟨i, by simp, by simp⟩
  | i :: k :: l, _ => by
    obtain ⟨m, hm, hle⟩ := exists_least (l := k :: l) (by simp)
    rcases Nat.le_total i m with h | h
    · exact ⟨i, by simp, fun j hj => by
        rcases List.mem_cons.1 hj with rfl | hj
        · exact Nat.le_refl _
        · exact Nat.le_trans h (hle j hj)⟩
    · exact ⟨m, List.mem_cons_of_mem _ hm, fun j hj => by
        rcases List.mem_cons.1 hj with rfl | hj
        · exact h
        · exact hle j hj⟩

theorem WD.go {K : St → Prop} (hb : backwards ops = true) : ∀ (fuel : Nat) (t : Nat) (listed : Array Bool) (rem : List Nat) (S : St), rem.length = fuel → rem.Nodup → listed.size = ops.size → (∀ i, i < ops.size → (listed.getD i true = false ↔ i ∈ rem)) → (∀ i, i ∈ rem → i < ops.size) →
    okPairs ops dl rl rem = true → Fresh ops rem S → WD P ops dl rl rem K S → WO P ops (Region.linearise.go .any ops fuel t listed []) K S
  | 0, t, listed, rem, S, hl, _, _, _, _, _, _, h => by
    have : rem = [] := List.eq_nil_of_length_eq_zero hl
    subst this
    simpa [Region.linearise.go, WO, WD] using h
  | fuel + 1, t, listed, rem, S, hl, hnd, hsz, hli, hlt, hop, hfr, h => by
    simp only [Region.linearise.go]
    change WO P ops (match (Region.ready .any ops listed)[t % (Region.ready .any ops listed).length]? with
      | some i => Region.linearise.go .any ops fuel (t / (Region.ready .any ops listed).length) (listed.setIfInBounds i true) [i]
      | none => [].reverse) K S
    cases hi : (Region.ready .any ops listed)[t % (Region.ready .any ops listed).length]? with
    | none =>
      exfalso
      have hnil : Region.ready .any ops listed = [] := by
        cases hr : Region.ready .any ops listed with
        | nil => rfl
        | cons x xs =>
          rw [hr] at hi
          have hlt : t % (x :: xs).length < (x :: xs).length := Nat.mod_lt _ (by simp)
          simp at hi
          simp at hlt
          omega
      obtain ⟨i, him, hleast⟩ := exists_least (l := rem) (by intro e; rw [e] at hl; cases hl)
      have hil := hlt i him
      obtain ⟨o, ho⟩ : ∃ o, ops[i]? = some o := ⟨ops[i], by simp [hil]⟩
      have : i ∈ Region.ready .any ops listed := mem_ready.2 ⟨(hli i hil).2 him, o, ho, fun e he hbd => by
        have hlt' := backwards_spec hb ho e he hbd
        have hnm : e.on ∉ rem := fun hm => Nat.lt_irrefl _ (Nat.lt_of_lt_of_le hlt' (hleast _ hm))
        have h1 := mt (hli e.on (Nat.lt_trans hlt' hil)).1 hnm
        have hes : e.on < listed.size := by rw [hsz]; exact Nat.lt_trans hlt' hil
        simp [hes] at h1 ⊢
        exact h1⟩
      rw [hnil] at this; cases this
    | some i =>
      simp only []
      rw [linearise_go_acc, List.reverse_singleton, List.singleton_append]
      have hri := List.mem_of_getElem? hi
      obtain ⟨hun, o, ho, hall⟩ := mem_ready.1 hri
      have hil : i < ops.size := (Array.getElem?_eq_some_iff.1 ho).1
      have him := (hli i hil).1 hun
      obtain ⟨l1, l2, hspl⟩ := List.append_of_mem him
      subst hspl
      have hnp : ∀ k, k ∈ l1 → pre ops k i = false := fun k hk => by
        cases hpre : pre ops k i with
        | false => rfl
        | true =>
          exfalso
          unfold pre at hpre
          rw [ho] at hpre
          simp only [List.any_eq_true, Bool.and_eq_true] at hpre
          obtain ⟨e, he, hbd, hek⟩ := hpre
          have hek' : e.on = k := Nat.eq_of_beq_eq_true hek
          have h1 := hall e (by simpa using he) hbd
          have hkm : k ∈ l1 ++ i :: l2 := by simp [hk]
          have hks := hlt k hkm
          have h2 := (hli k hks).2 hkm
          rw [hek'] at h1
          have hks' : k < listed.size := by rw [hsz]; exact hks
          simp [hks'] at h1 h2
          rw [h1] at h2; cases h2
      have hfront := WD.front l1 hop hnp hfr h
      obtain ⟨hop', hb1, hb2⟩ := okPairs_split l1 hop
      refine hfront.wo1 fun o' ho' S' hE hw => ?_
      rw [ho] at ho'; cases ho'
      have hnd' := List.nodup_append.1 hnd
      refine WD.go hb fuel _ _ (l1 ++ l2) S' (by simp at hl ⊢; omega) ?_ (by simp [hsz]) (fun j hj => ?_) (fun j hj => hlt j (by simp at hj ⊢; rcases hj with h | h <;> simp [h])) hop' ?_ hw
      · exact hnd.sublist (List.Sublist.append (List.Sublist.refl _) (List.sublist_cons_self i l2))
      · by_cases hij : i = j
        · subst hij
          have : i < listed.size := by rw [hsz]; exact hil
          simp only [Array.getD_eq_getD_getElem?, Array.getElem?_setIfInBounds_self]
          simp only [this, if_true, Option.getD_some]
          constructor
          · intro e; cases e
          · intro hm
            exfalso
            rcases List.mem_append.1 hm with h | h
            · exact hnd'.2.2 i h i (by simp) rfl
            · exact (List.nodup_cons.1 hnd'.2.1).1 h
        · rw [getD_set_ne true hij, hli j hj]
          simp only [List.mem_append, List.mem_cons]
          constructor
          · rintro (h | h | h)
            · exact Or.inl h
            · exact absurd h.symm hij
            · exact Or.inr h
          · rintro (h | h)
            · exact Or.inl h
            · exact Or.inr (Or.inr h)
      · have hf' : Fresh ops (l1 ++ l2) S := fun j y d hj => hfr j y d (by simp at hj ⊢; rcases hj with h | h <;> simp [h])
        refine hf'.after ho (dl := dl) (rl := rl) (fun j hj => ?_) hE
        rcases List.mem_append.1 hj with h | h
        · exact Or.inr (hb1 j h)
        · exact Or.inl (hb2 j h)

theorem distinctN_spec : ∀ {l : List Nat}, distinctN l = true → l.Nodup
  | [], _ => List.nodup_nil
  | k :: r, h => by
    simp only [distinctN, Bool.and_eq_true, Bool.not_eq_true'] at h
    refine List.nodup_cons.2 ⟨fun hm => ?_, distinctN_spec h.2⟩
    rw [memN_iff.2 hm] at h; cases h.1

/-- One order serves every order. -/
theorem WD.all {π : List Nat} {K : St → Prop} {S : St} (hok : drawOK ops dl rl π = true) (hf : Fresh ops π S) (h : WD P ops dl rl π K S) : ∀ t, WO P ops (Region.schedule true ops t) K S := fun t => by
  unfold drawOK at hok
  simp only [Bool.and_eq_true, List.all_eq_true] at hok
  obtain ⟨⟨⟨⟨⟨h1, h2⟩, h3⟩, h4⟩, h5⟩, h6⟩ := hok
  have h4' : π.length = ops.size := Nat.eq_of_beq_eq_true h4
  have h5' : ∀ i, i ∈ π → i < ops.size := fun i hi => Nat.le_of_ble_eq_true (h5 i hi)
  have hnd := distinctN_spec h3
  simp only [Region.schedule, Bool.true_or, if_true, Region.linearise]
  refine WD.go h2 ops.size t (Array.replicate ops.size false) π S h4' hnd (by simp) (fun i hi => ?_) h5' h1 hf h
  simp [hi]
  exact memN_iff.1 (h6 i (List.mem_range.2 hi))

end
end Go.Fs
