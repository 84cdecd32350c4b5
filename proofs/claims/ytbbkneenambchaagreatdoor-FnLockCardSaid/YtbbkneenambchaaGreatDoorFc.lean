/- An evaluator on a program's code: its definitions. The evaluator, continued: regions, code, functions. The evaluator, continued: values without names; rows that are frozen; a table of results. The evaluator in a quicker form, which gives the same. Conditions: none. -/
import Derived.Test.YtbbkneenambchaaGreatDoorFb

namespace Go.Fs
open Go
noncomputable section

structure Pr (α : Type) where
  l : α
  r : α
/-- A full binary tree of depth n. -/
def TT (α : Type) (n : Nat) : Type := @Nat.rec (fun _ => Type) α (fun _ A => Pr A) n
structure Acc (α : Type) (n : Nat) where
  g : TT α n → α
  u : α → TT α n → TT α n
def accLq {α : Type} {n : Nat} (a : Acc α n) : {b : Acc α (Nat.succ n) // b = ⟨fun (e : Pr (TT α n)) => Acc.g a (Pr.l e), fun y (e : Pr (TT α n)) => (⟨Acc.u a y (Pr.l e), Pr.r e⟩ : Pr (TT α n))⟩} := by
  delta Acc.g Acc.u Pr.l Pr.r; exact ⟨_, rfl⟩
def accRq {α : Type} {n : Nat} (a : Acc α n) : {b : Acc α (Nat.succ n) // b = ⟨fun (e : Pr (TT α n)) => Acc.g a (Pr.r e), fun y (e : Pr (TT α n)) => (⟨Pr.l e, Acc.u a y (Pr.r e)⟩ : Pr (TT α n))⟩} := by
  delta Acc.g Acc.u Pr.l Pr.r; exact ⟨_, rfl⟩
def accL {α : Type} {n : Nat} (a : Acc α n) : Acc α (Nat.succ n) := (accLq a).1
def accR {α : Type} {n : Nat} (a : Acc α n) : Acc α (Nat.succ n) := (accRq a).1
/-- The place of number i. -/
def acc (α : Type) (n : Nat) : Nat → Acc α n := @Nat.rec (fun n => Nat → Acc α n) (fun _ => ⟨fun x => x, fun y _ => y⟩)
  (fun n ih i => (@Bool.rec (fun _ => Acc α (Nat.succ n)) (accL (ih (Nat.div i 2))) (accR (ih (Nat.div i 2))) (Nat.beq (Nat.mod i 2) 1))) n
def full (α : Type) (x : α) (n : Nat) : TT α n := @Nat.rec (fun n => TT α n) x (fun n (ih : TT α n) => (⟨ih, ih⟩ : Pr (TT α n))) n

/-- What a slot holds, by slot; and what is owned, by name. -/
def ET : Type := TT FV 8
abbrev HE : Type := Option (Nat × FObj)
def HT : Type := TT HE 16
def E0T : ET := full FV .und 8
def H0T : HT := full HE none 16
instance : Inhabited ET := ⟨E0T⟩
instance : Inhabited HT := ⟨H0T⟩
def aE (i : Nat) : Acc FV 8 := acc FV 8 i
def aH (i : Nat) : Acc HE 16 := acc HE 16 i
def lkS (E : ET) (i : Nat) : FV := (aE i).g E
def putS (i : Nat) (x : FV) (E : ET) : ET := (aE i).u x E
def lkH (τ : Nat) (H : HT) : Option FObj := (@Option.rec _ (fun _ => Option FObj) (none) (fun p => (@Bool.rec (fun _ => Option FObj) (none) (some p.2) (Nat.beq p.1 τ))) ((aH τ).g H))
/-- For a name that is there already, or whose place is empty. -/
def putH (τ : Nat) (x : FObj) (H : HT) : HT := (aH τ).u (some (τ, x)) H
def delH (τ : Nat) (H : HT) : HT := (aH τ).u none H
def freeH (τ : Nat) (H : HT) : Bool := (@Option.rec _ (fun _ => Bool) (true) (fun _ => false) ((aH τ).g H))

def nth' {α : Type} : List α → Nat → Option α
  | [], _ => none
  | x :: r, i => match i with
    | 0 => some x
    | i + 1 => nth' r i
def nth {α : Type} (l : List α) : Nat → Option α := @List.rec α (fun _ => Nat → Option α) (fun _ => none) (fun x _ ih i => (@Nat.rec (fun _ => Option α) (some x) (fun i _ => ih i) (i))) l
def setNth' {α : Type} (y : α) : List α → Nat → List α
  | [], _ => []
  | x :: r, i => match i with
    | 0 => y :: r
    | i + 1 => x :: setNth' y r i
def setNth {α : Type} (y : α) (l : List α) : Nat → List α := @List.rec α (fun _ => Nat → List α) (fun _ => []) (fun x r ih i => (@Nat.rec (fun _ => List α) (y :: r) (fun i _ => x :: ih i) (i))) l
def app' {α : Type} (l m : List α) : List α := l ++ m
def app {α : Type} (l m : List α) : List α := @List.rec α (fun _ => List α) m (fun x _ ih => x :: ih) l
def len' {α : Type} (l : List α) : Nat := l.length
def len {α : Type} (l : List α) : Nat := @List.rec α (fun _ => Nat) 0 (fun _ _ ih => Nat.succ ih) l
def drp' {α : Type} (n : Nat) (l : List α) : List α := l.drop n
def drp {α : Type} (n : Nat) : List α → List α := @Nat.rec (fun _ => List α → List α) (fun l => l) (fun _ ih l => (@List.rec _ (fun _ => List α) ([]) (fun _ r _ => ih r) (l))) n
def tak' {α : Type} (n : Nat) (l : List α) : List α := l.take n
def tak {α : Type} (n : Nat) : List α → List α := @Nat.rec (fun _ => List α → List α) (fun _ => []) (fun _ ih l => (@List.rec _ (fun _ => List α) ([]) (fun x r _ => x :: ih r) (l))) n
def consO {α : Type} (x : α) (l : Option (List α)) : Option (List α) := (@Option.rec _ (fun _ => Option (List α)) (none) (fun l => some (x :: l)) (l))
def mapO' {α β : Type} (f : α → Option β) : List α → Option (List β)
  | [] => some []
  | x :: r => match f x with
    | some y => consO y (mapO' f r)
    | none => none
def mapO {α β : Type} (f : α → Option β) (l : List α) : Option (List β) := @List.rec α (fun _ => Option (List β)) (some []) (fun x _ ih => (@Option.rec _ (fun _ => Option (List β)) (none) (fun y => consO y ih) (f x))) l
def allB' {α : Type} (f : α → Bool) (l : List α) : Bool := l.all f
def allB {α : Type} (f : α → Bool) (l : List α) : Bool := @List.rec α (fun _ => Bool) true (fun x _ ih => (@Bool.rec (fun _ => Bool) (false) (ih) (f x))) l
def strEq' : List UInt8 → List UInt8 → Bool
  | [], [] => true
  | x :: r, y :: t => match Nat.beq x.toNat y.toNat with
    | true => strEq' r t
    | false => false
  | _, _ => false
def strEq (a : List UInt8) : List UInt8 → Bool := @List.rec UInt8 (fun _ => List UInt8 → Bool) (fun b => (@List.rec _ (fun _ => Bool) (true) (fun _ _ _ => false) (b))) (fun x _ ih b => (@List.rec _ (fun _ => Bool) (false) (fun y t _ => (@Bool.rec (fun _ => Bool) (false) (ih t) (Nat.beq x.toNat y.toNat))) (b))) a
def strLt' : List UInt8 → List UInt8 → Bool
  | [], [] => false
  | [], _ :: _ => true
  | _ :: _, [] => false
  | x :: r, y :: t => match Nat.beq x.toNat y.toNat with
    | true => strLt' r t
    | false => Nat.blt x.toNat y.toNat
def strLt (a : List UInt8) : List UInt8 → Bool := @List.rec UInt8 (fun _ => List UInt8 → Bool) (fun b => (@List.rec _ (fun _ => Bool) (false) (fun _ _ _ => true) (b))) (fun x _ ih b => (@List.rec _ (fun _ => Bool) (false) (fun y t _ => (@Bool.rec (fun _ => Bool) (Nat.blt x.toNat y.toNat) (ih t) (Nat.beq x.toNat y.toNat))) (b))) a
def rep' {α : Type} (x : α) (n : Nat) : List α := List.replicate n x
def rep {α : Type} (x : α) (n : Nat) : List α := @Nat.rec (fun _ => List α) [] (fun _ ih => x :: ih) n

def ilt (a b : Int) : Bool := (@Int.rec (fun _ => Bool) (fun m => (@Int.rec (fun _ => Bool) (fun n => Nat.blt m n) (fun _ => false) (b))) (fun m => (@Int.rec (fun _ => Bool) (fun _ => true) (fun n => Nat.blt n m) (b))) (a))
def ieq (a b : Int) : Bool := (@Int.rec (fun _ => Bool) (fun m => (@Int.rec (fun _ => Bool) (fun n => Nat.beq m n) (fun _ => false) (b))) (fun m => (@Int.rec (fun _ => Bool) (fun _ => false) (fun n => Nat.beq n m) (b))) (a))
def inR (a : Int) : Bool := (@Int.rec (fun _ => Bool) (fun m => Nat.ble m 9223372036854775807) (fun m => Nat.ble m 9223372036854775807) (a))
def iadd (a b : Int) : Int := (@Int.rec (fun _ => Int) (fun m => (@Int.rec (fun _ => Int) (fun n => Int.ofNat (Nat.add m n)) (fun n => Int.subNatNat m (Nat.succ n)) (b))) (fun m => (@Int.rec (fun _ => Int) (fun n => Int.subNatNat n (Nat.succ m)) (fun n => Int.negSucc (Nat.succ (Nat.add m n))) (b))) (a))
def isub (a b : Int) : Int := (@Int.rec (fun _ => Int) (fun m => (@Int.rec (fun _ => Int) (fun n => (@Bool.rec (fun _ => Int) (Int.negSucc (Nat.pred (Nat.sub n m))) (Int.ofNat (Nat.sub m n)) (Nat.ble n m))) (fun n => Int.ofNat (Nat.add m (Nat.succ n))) (b))) (fun _ => Int.sub a b) (a))
def kNum (a : IntKind) : Nat := match a with
  | .i8 => 0 | .i16 => 1 | .i32 => 2 | .i64 => 3 | .u8 => 4 | .u16 => 5 | .u32 => 6 | .u64 => 7
def kEq (a b : IntKind) : Bool := Nat.beq (kNum a) (kNum b)

/-- What an operation gives: a value, what is owned then, and the next name. -/
inductive Out where
  | no
  | ok (x : FV) (H : HT) (c : Nat)

instance : Inhabited Out := ⟨.no⟩

/-- What does not change while a program runs. -/
structure Cfg where
  P : Program
  G : Nat → Option (List FV)
  nat : Nat → Option (List FV → HT → Nat → Out)
  body : Nat → Option Func
  ord : Nat → Nat → Option (List (Nat × Nat))

structure Vm where
  nm : Nat
  c1 : Nat
  c : Nat
  E : ET
  H : HT

abbrev CallT := Nat → List FV → HT → Nat → Out

def andB (a b : Bool) : Bool := (@Bool.rec (fun _ => Bool) (false) (b) (a))
def evG (g : Nat) (K : Cfg) : FV := (@Option.rec _ (fun _ => FV) (.ptr (some (g, 0))) (fun cs => .pp cs) (K.G g))
def evT (K : Cfg) (E : ET) (y : Operand) : FV := (@Operand.rec (fun _ => FV) (fun t => lkS E t) (fun c => ofC c) (fun g => evG g K) (fun f => .fn f []) (y))
def Cfg.ev (K : Cfg) (v : Vm) (y : Operand) : FV := evT K v.E y
def Vm.ok (v : Vm) (x : FV) : Out := .ok x v.H v.c
def Vm.opt (v : Vm) (x : Option FV) : Out := (@Option.rec _ (fun _ => Out) (.no) (fun x => .ok x v.H v.c) (x))
def Vm.new (v : Vm) (x : FV) (o : FObj) : Out := (@Bool.rec (fun _ => Out) (.no) (.ok x (putH v.nm o v.H) v.c1) (freeH v.nm v.H))

def asBool (x : FV) : Option Bool := (@FV.rec (fun _ => Option Bool) (fun _ => Unit) (fun _ => Unit) (none) (fun b => some b) (fun _ _ => none) (fun _ => none) (fun _ => none) (fun _ _ => none) (fun _ _ _ => none) (fun _ _ _ => none) (none) (fun _ _ _ _ => none) (fun _ _ _ _ => none) (fun _ => none) (fun _ => none) (fun _ _ _ => none) (fun _ _ _ => none) (none) (fun _ _ => none) (fun _ _ => none) (fun _ => none) () (fun _ _ _ _ => ()) () (fun _ _ _ _ => ()) (x))
def asNat (x : FV) : Option Nat := (@FV.rec (fun _ => Option Nat) (fun _ => Unit) (fun _ => Unit) (none) (fun _ => none) (fun _ n => (@Int.rec (fun _ => Option Nat) (fun m => some m) (fun _ => none) (n))) (fun _ => none) (fun _ => none) (fun _ _ => none) (fun _ _ _ => none) (fun _ _ _ => none) (none) (fun _ _ _ _ => none) (fun _ _ _ _ => none) (fun _ => none) (fun _ => none) (fun _ _ _ => none) (fun _ _ _ => none) (none) (fun _ _ => none) (fun _ _ => none) (fun _ => none) () (fun _ _ _ _ => ()) () (fun _ _ _ _ => ()) (x))
def asStr (x : FV) : Option (List UInt8) := (@FV.rec (fun _ => Option (List UInt8)) (fun _ => Unit) (fun _ => Unit) (none) (fun _ => none) (fun _ _ => none) (fun s => some s) (fun _ => none) (fun _ _ => none) (fun _ _ _ => none) (fun _ _ _ => none) (none) (fun _ _ _ _ => none) (fun _ _ _ _ => none) (fun _ => none) (fun _ => none) (fun _ _ _ => none) (fun _ _ _ => none) (none) (fun _ _ => none) (fun _ _ => none) (fun _ => none) () (fun _ _ _ _ => ()) () (fun _ _ _ _ => ()) (x))
def asTup (x : FV) : Option (List FV) := (@FV.rec (fun _ => Option (List FV)) (fun _ => Unit) (fun _ => Unit) (none) (fun _ => none) (fun _ _ => none) (fun _ => none) (fun _ => none) (fun _ _ => none) (fun _ _ _ => none) (fun _ _ _ => none) (none) (fun _ _ _ _ => none) (fun _ _ _ _ => none) (fun _ => none) (fun _ => none) (fun _ _ _ => none) (fun _ _ _ => none) (none) (fun _ _ => none) (fun cs _ => some cs) (fun _ => none) () (fun _ _ _ _ => ()) () (fun _ _ _ _ => ()) (x))
def oneB (x : FV) : Bool := (@FV.rec (fun _ => Bool) (fun _ => Unit) (fun _ => Unit) (false) (fun _ => true) (fun _ _ => true) (fun _ => true) (fun _ => true) (fun _ _ => true) (fun _ _ _ => true) (fun _ _ _ => true) (true) (fun _ _ _ _ => true) (fun _ _ _ _ => true) (fun _ => true) (fun _ => true) (fun _ _ _ => true) (fun _ _ _ => true) (true) (fun _ _ => false) (fun _ _ => false) (fun _ => false) () (fun _ _ _ _ => ()) () (fun _ _ _ _ => ()) (x))
def plainV (x : FV) : Bool := (@FV.rec (fun _ => Bool) (fun _ => Unit) (fun _ => Unit) (false) (fun _ => true) (fun _ _ => true) (fun _ => true) (fun _ => true) (fun _ _ => true) (fun _ _ _ => true) (fun _ _ _ => true) (true) (fun _ _ _ _ => true) (fun _ _ _ _ => true) (fun _ => true) (fun _ => true) (fun _ _ _ => true) (fun _ _ _ => true) (true) (fun cs _ => allB oneB cs) (fun _ _ => false) (fun _ => false) () (fun _ _ _ _ => ()) () (fun _ _ _ _ => ()) (x))
def cellsV (x : FV) : List FV := (@Option.rec _ (fun _ => List FV) ([x]) (fun cs => cs) ((@FV.rec (fun _ => Option (List FV)) (fun _ => Unit) (fun _ => Unit) (none) (fun _ => none) (fun _ _ => none) (fun _ => none) (fun _ => none) (fun _ _ => none) (fun _ _ _ => none) (fun _ _ _ => none) (none) (fun _ _ _ _ => none) (fun _ _ _ _ => none) (fun _ => none) (fun _ => none) (fun _ _ _ => none) (fun _ _ _ => none) (none) (fun cs _ => some cs) (fun _ _ => none) (fun _ => none) () (fun _ _ _ _ => ()) () (fun _ _ _ _ => ()) (x))))
def rowAt (sz τ : Nat) (H : HT) : Option (List (List FV)) := (@Option.rec _ (fun _ => Option (List (List FV))) (none) (fun o => (@FObj.rec (fun _ => Option (List (List FV))) (fun _ => none) (fun s _ es => (@Bool.rec (fun _ => Option (List (List FV))) (none) (some es) (Nat.beq s sz))) (fun _ => none) (fun _ _ => none) (o))) (lkH τ H))
def mapAt (τ : Nat) (H : HT) : Option (List (FV × FV)) := (@Option.rec _ (fun _ => Option (List (FV × FV))) (none) (fun o => (@FObj.rec (fun _ => Option (List (FV × FV))) (fun _ => none) (fun _ _ _ => none) (fun kvs => some kvs) (fun _ _ => none) (o))) (lkH τ H))

def arI (k : IntKind) (r : Int) : FV := (@Bool.rec (fun _ => FV) (.int k (k.wrap r)) ((@Bool.rec (fun _ => FV) (.int k (k.wrap r)) (.int k r) (inR r))) (Nat.beq (kNum k) 3))
def binI2 (op : BinOp) (k : IntKind) (a b : Int) : Option FV := match op with
  | .add => some (arI k (iadd a b))
  | .sub => some (arI k (isub a b))
  | .mul => some (arI k (Int.mul a b))
  | .quo => bif ieq b 0 then none else some (.int k (k.wrap (a.tdiv b)))
  | .rem => bif ieq b 0 then none else some (.int k (a.tmod b))
  | .eql => some (.bool (ieq a b))
  | .neq => some (.bool (!(ieq a b)))
  | .lss => some (.bool (ilt a b))
  | .leq => some (.bool (!(ilt b a)))
  | .gtr => some (.bool (ilt b a))
  | .geq => some (.bool (!(ilt a b)))
  | op => (bitsI op k a b).map (.int k)
def binSh (op : BinOp) (k : IntKind) (a b : Int) : Option FV := match op with
  | .shl => bif ilt b 0 then none else some (.int k (k.wrap (Int.mul a (2 ^ (min b.toNat k.bits)))))
  | _ => bif ilt b 0 then none else some (.int k (a.fdiv (2 ^ (min b.toNat k.bits))))
structure BinF where
  i : IntKind → Int → IntKind → Int → Option FV
  s : List UInt8 → List UInt8 → Option FV
  b : Bool → Bool → Option FV
  z : FV → FV → Option FV
def same2 (f : Int → Int → Option FV) (k : IntKind) (a : Int) (k' : IntKind) (b : Int) : Option FV := (@Bool.rec (fun _ => Option FV) (none) (f a b) (kEq k k'))
def cmpF (f : Int → Int → Bool) (k : IntKind) (a : Int) (k' : IntKind) (b : Int) : Option FV := (@Bool.rec (fun _ => Option FV) (none) (some (.bool (f a b))) (kEq k k'))
def nS (_ _ : List UInt8) : Option FV := none
def nB (_ _ : Bool) : Option FV := none
def nZ (_ _ : FV) : Option FV := none
/-- Is a slice, a map nil? -/
def nilS (x : FV) : Option Bool := (@FV.rec (fun _ => Option Bool) (fun _ => Unit) (fun _ => Unit) (none) (fun _ => none) (fun _ _ => none) (fun _ => none) (fun _ => none) (fun _ _ => none) (fun _ es _ => (@List.rec _ (fun _ => Option Bool) (none) (fun _ _ _ => some false) (es))) (fun _ es _ => (@List.rec _ (fun _ => Option Bool) (none) (fun _ _ _ => some false) (es))) (some true) (fun _ _ _ n => (@Bool.rec (fun _ => Option Bool) (none) (some false) (Nat.blt 0 n))) (fun _ _ _ _ => none) (fun _ => none) (fun _ => none) (fun _ _ _ => none) (fun _ _ _ => none) (none) (fun _ _ => none) (fun _ _ => none) (fun _ => none) () (fun _ _ _ _ => ()) () (fun _ _ _ _ => ()) (x))
def nilM (x : FV) : Option Bool := (@FV.rec (fun _ => Option Bool) (fun _ => Unit) (fun _ => Unit) (none) (fun _ => none) (fun _ _ => none) (fun _ => none) (fun _ => none) (fun _ _ => none) (fun _ _ _ => none) (fun _ _ _ => none) (none) (fun _ _ _ _ => none) (fun _ _ _ _ => none) (fun r => (@Option.rec _ (fun _ => Option Bool) (some true) (fun _ => some false) (r))) (fun _ => some false) (fun _ _ _ => none) (fun _ _ _ => none) (none) (fun _ _ => none) (fun _ _ => none) (fun _ => none) () (fun _ _ _ _ => ()) () (fun _ _ _ _ => ()) (x))
def boolQ (q a : Bool) : Option FV := some (.bool (@Bool.rec (fun _ => Bool) (!a) (a) (q)))
def nilEq0 (f : FV → Option Bool) (q : Bool) (x y : FV) : Option FV := (@Option.rec _ (fun _ => Option FV) (none) (fun b => (@Bool.rec (fun _ => Option FV) (none) ((@Option.rec _ (fun _ => Option FV) (none) (fun a => boolQ q a) (f x))) (b))) (f y))
/-- Two numbers. -/
def twoI (cs : List FV) : Option (Int × Int) := (@List.rec _ (fun _ => Option (Int × Int)) (none) (fun a r _ => (@List.rec _ (fun _ => Option (Int × Int)) (none) (fun b s _ => (@List.rec _ (fun _ => Option (Int × Int)) ((@FV.rec (fun _ => Option (Int × Int)) (fun _ => Unit) (fun _ => Unit) (none) (fun _ => none) (fun k m => (@Bool.rec (fun _ => Option (Int × Int)) (none) ((@FV.rec (fun _ => Option (Int × Int)) (fun _ => Unit) (fun _ => Unit) (none) (fun _ => none) (fun l n => (@Bool.rec (fun _ => Option (Int × Int)) (none) (some (m, n)) (kEq l .i64))) (fun _ => none) (fun _ => none) (fun _ _ => none) (fun _ _ _ => none) (fun _ _ _ => none) (none) (fun _ _ _ _ => none) (fun _ _ _ _ => none) (fun _ => none) (fun _ => none) (fun _ _ _ => none) (fun _ _ _ => none) (none) (fun _ _ => none) (fun _ _ => none) (fun _ => none) () (fun _ _ _ _ => ()) () (fun _ _ _ _ => ()) (b))) (kEq k .i64))) (fun _ => none) (fun _ => none) (fun _ _ => none) (fun _ _ _ => none) (fun _ _ _ => none) (none) (fun _ _ _ _ => none) (fun _ _ _ _ => none) (fun _ => none) (fun _ => none) (fun _ _ _ => none) (fun _ _ _ => none) (none) (fun _ _ => none) (fun _ _ => none) (fun _ => none) () (fun _ _ _ _ => ()) () (fun _ _ _ _ => ()) (a))) (fun _ _ _ => none) (s))) (r))) (cs))
def aggL (x : FV) : Option (List FV) := (@FV.rec (fun _ => Option (List FV)) (fun _ => Unit) (fun _ => Unit) (none) (fun _ => none) (fun _ _ => none) (fun _ => none) (fun _ => none) (fun _ _ => none) (fun _ _ _ => none) (fun _ _ _ => none) (none) (fun _ _ _ _ => none) (fun _ _ _ _ => none) (fun _ => none) (fun _ => none) (fun _ _ _ => none) (fun _ _ _ => none) (none) (fun cs _ => some cs) (fun _ _ => none) (fun _ => none) () (fun _ _ _ _ => ()) () (fun _ _ _ _ => ()) (x))
def aggI (x : FV) : Option (Int × Int) := (@Option.rec _ (fun _ => Option (Int × Int)) (none) (fun cs => twoI cs) (aggL x))
def pairEq (q : Bool) (x y : FV) : Option FV := (@Option.rec _ (fun _ => Option FV) (none) (fun a => (@Option.rec _ (fun _ => Option FV) (none) (fun b => boolQ q (andB (ieq a.1 b.1) (ieq a.2 b.2))) (aggI y))) (aggI x))
/-- Is the type a struct of two ints? -/
def twoT (P : Program) (t : TypeId) : Bool := match P.underlying t with
  | some (.struct fs) => match fs.toList with
    | [a, b] => (match P.underlying a.type, P.underlying b.type with
      | some (.int .i64), some (.int .i64) => a.offset == 0 && b.offset == 1 && a.name != "_" && b.name != "_" && !(P.stoodInHeld t) && !(P.eqGuardType P.depth t)
      | _, _ => false)
    | _ => false
  | _ => false
def eqZ (P : Program) (t : TypeId) (q : Bool) : FV → FV → Option FV := match Nat.beq (kdOf P t) 5, Nat.beq (kdOf P t) 6, twoT P t with
  | true, _, _ => nilEq0 nilS q
  | _, true, _ => nilEq0 nilM q
  | _, _, true => pairEq q
  | _, _, _ => fun _ _ => none
def addF (k : IntKind) (a : Int) (k' : IntKind) (b : Int) : Option FV := (@Bool.rec (fun _ => Option FV) (none) (some (arI k (iadd a b))) (kEq k k'))
def subF (k : IntKind) (a : Int) (k' : IntKind) (b : Int) : Option FV := (@Bool.rec (fun _ => Option FV) (none) (some (arI k (isub a b))) (kEq k k'))
def othF (op : BinOp) (k : IntKind) (a : Int) (k' : IntKind) (b : Int) : Option FV := (@Bool.rec (fun _ => Option FV) (none) (binI2 op k a b) (kEq k k'))
def shF (op : BinOp) (k : IntKind) (a : Int) (_ : IntKind) (b : Int) : Option FV := binSh op k a b
def addS (a b : List UInt8) : Option FV := (@Bool.rec (fun _ => Option FV) (none) (some (.str (app a b))) (Nat.blt (Nat.add (len a) (len b)) 68719476736))
def cmpSt (f : List UInt8 → List UInt8 → Bool) (a b : List UInt8) : Option FV := some (.bool (f a b))
def ileq (a b : Int) : Bool := !(ilt b a)
def igtr (a b : Int) : Bool := ilt b a
def igeq (a b : Int) : Bool := !(ilt a b)
def ineq (a b : Int) : Bool := !(ieq a b)
def sneq (a b : List UInt8) : Bool := !(strEq a b)
def sleq (a b : List UInt8) : Bool := !(strLt b a)
def sgtr (a b : List UInt8) : Bool := strLt b a
def sgeq (a b : List UInt8) : Bool := !(strLt a b)
def bEq (P : Program) (t : TypeId) (a b : Bool) : Option FV := (@Bool.rec (fun _ => Option FV) (none) (some (.bool (a == b))) (Nat.beq (kdOf P t) 1))
def bNe (P : Program) (t : TypeId) (a b : Bool) : Option FV := (@Bool.rec (fun _ => Option FV) (none) (some (.bool (a != b))) (Nat.beq (kdOf P t) 1))
/-- A binary operation, made ready. -/
def binF (op : BinOp) (P : Program) (t : TypeId) : BinF := match op with
  | .add => ⟨addF, addS, nB, nZ⟩
  | .sub => ⟨subF, nS, nB, nZ⟩
  | .eql => ⟨cmpF ieq, cmpSt strEq, bEq P t, eqZ P t true⟩
  | .neq => ⟨cmpF ineq, cmpSt sneq, bNe P t, eqZ P t false⟩
  | .lss => ⟨cmpF ilt, cmpSt strLt, nB, nZ⟩
  | .leq => ⟨cmpF ileq, cmpSt sleq, nB, nZ⟩
  | .gtr => ⟨cmpF igtr, cmpSt sgtr, nB, nZ⟩
  | .geq => ⟨cmpF igeq, cmpSt sgeq, nB, nZ⟩
  | .shl => ⟨shF .shl, nS, nB, nZ⟩
  | .shr => ⟨shF .shr, nS, nB, nZ⟩
  | op => ⟨othF op, nS, nB, nZ⟩
def binV (f : BinF) (x y : FV) : Option FV := (@FV.rec (fun _ => Option FV) (fun _ => Unit) (fun _ => Unit) (f.z x y) (fun a => (@FV.rec (fun _ => Option FV) (fun _ => Unit) (fun _ => Unit) (none) (fun b => f.b a b) (fun _ _ => none) (fun _ => none) (fun _ => none) (fun _ _ => none) (fun _ _ _ => none) (fun _ _ _ => none) (none) (fun _ _ _ _ => none) (fun _ _ _ _ => none) (fun _ => none) (fun _ => none) (fun _ _ _ => none) (fun _ _ _ => none) (none) (fun _ _ => none) (fun _ _ => none) (fun _ => none) () (fun _ _ _ _ => ()) () (fun _ _ _ _ => ()) (y))) (fun k a => (@FV.rec (fun _ => Option FV) (fun _ => Unit) (fun _ => Unit) (none) (fun _ => none) (fun k' b => f.i k a k' b) (fun _ => none) (fun _ => none) (fun _ _ => none) (fun _ _ _ => none) (fun _ _ _ => none) (none) (fun _ _ _ _ => none) (fun _ _ _ _ => none) (fun _ => none) (fun _ => none) (fun _ _ _ => none) (fun _ _ _ => none) (none) (fun _ _ => none) (fun _ _ => none) (fun _ => none) () (fun _ _ _ _ => ()) () (fun _ _ _ _ => ()) (y))) (fun a => (@FV.rec (fun _ => Option FV) (fun _ => Unit) (fun _ => Unit) (none) (fun _ => none) (fun _ _ => none) (fun b => f.s a b) (fun _ => none) (fun _ _ => none) (fun _ _ _ => none) (fun _ _ _ => none) (none) (fun _ _ _ _ => none) (fun _ _ _ _ => none) (fun _ => none) (fun _ => none) (fun _ _ _ => none) (fun _ _ _ => none) (none) (fun _ _ => none) (fun _ _ => none) (fun _ => none) () (fun _ _ _ _ => ()) () (fun _ _ _ _ => ()) (y))) (fun _ => f.z x y) (fun _ _ => f.z x y) (fun _ _ _ => f.z x y) (fun _ _ _ => f.z x y) (f.z x y) (fun _ _ _ _ => f.z x y) (fun _ _ _ _ => f.z x y) (fun _ => f.z x y) (fun _ => f.z x y) (fun _ _ _ => f.z x y) (fun _ _ _ => f.z x y) (f.z x y) (fun _ _ => f.z x y) (fun _ _ => f.z x y) (fun _ => f.z x y) () (fun _ _ _ _ => ()) () (fun _ _ _ _ => ()) (x))

def shiftV (x : FV) (n : Nat) : Option FV := (@FV.rec (fun _ => Option FV) (fun _ => Unit) (fun _ => Unit) (none) (fun _ => none) (fun _ _ => none) (fun _ => none) (fun _ => none) (fun cs _ => (@Bool.rec (fun _ => Option FV) (none) (some (.pp (drp n cs))) (Nat.ble n (len cs)))) (fun _ _ _ => none) (fun _ _ _ => none) (none) (fun _ _ _ _ => none) (fun sz t i j => some (.rp sz t i (Nat.add j n))) (fun _ => none) (fun _ => none) (fun _ _ _ => none) (fun _ _ _ => none) (none) (fun _ _ => none) (fun _ _ => none) (fun _ => none) () (fun _ _ _ _ => ()) () (fun _ _ _ _ => ()) (x))
def ldA (n : Nat) (cs : List FV) (off : Nat) : Option FV := (@Bool.rec (fun _ => Option FV) (none) (some (.agg (tak n (drp off cs)))) (Nat.ble (Nat.add off n) (len cs)))
structure LdF where
  f : List FV → Nat → Option FV
/-- A load of a type, made ready. -/
def ldF (P : Program) (t : TypeId) : LdF := match tySize P t, tyHas P t with
  | some n, true => match tyAgg P t with
    | true => ⟨ldA n⟩
    | false => ⟨nth⟩
  | _, _ => ⟨fun _ _ => none⟩
def loadR (f : LdF) (i j : Nat) (es : Option (List (List FV))) : Option FV := (@Option.rec _ (fun _ => Option FV) (none) (fun es => (@Option.rec _ (fun _ => Option FV) (none) (fun e => f.f e j) (nth es i))) (es))
def loadV (f : LdF) (x : FV) (H : HT) : Option FV := (@FV.rec (fun _ => Option FV) (fun _ => Unit) (fun _ => Unit) (none) (fun _ => none) (fun _ _ => none) (fun _ => none) (fun _ => none) (fun cs _ => f.f cs 0) (fun _ _ _ => none) (fun _ _ _ => none) (none) (fun _ _ _ _ => none) (fun sz τ i j => loadR f i j (rowAt sz τ H)) (fun _ => none) (fun _ => none) (fun _ _ _ => none) (fun _ _ _ => none) (none) (fun _ _ => none) (fun _ _ => none) (fun _ => none) () (fun _ _ _ _ => ()) () (fun _ _ _ _ => ()) (x))
def wrV (cs : List FV) (o : Nat) (l : List FV) : List FV := app (tak o cs) (app l (drp (Nat.add o (len l)) cs))
def idxE (e : Option (List FV)) : Option FV := (@Option.rec _ (fun _ => Option FV) (none) (fun e => some (.pp e)) (e))
def idxZ (b : Bool) (r : Option FV) : Option FV := (@Bool.rec (fun _ => Option FV) (none) (r) (b))
def idx2 (k : Nat) (x : FV) (n : Nat) : Option FV := (@FV.rec (fun _ => Option FV) (fun _ => Unit) (fun _ => Unit) (none) (fun _ => none) (fun _ _ => none) (fun _ => none) (fun _ => none) (fun _ _ => none) (fun sz es _ => idxZ (Nat.beq sz k) (idxE (nth es n))) (fun sz es _ => idxZ (Nat.beq sz k) (idxE (nth es n))) (none) (fun sz τ off l => idxZ (andB (Nat.beq sz k) (Nat.blt n l)) (some (.rp sz τ (Nat.add off n) 0))) (fun _ _ _ _ => none) (fun _ => none) (fun _ => none) (fun _ _ _ => none) (fun _ _ _ => none) (none) (fun _ _ => none) (fun _ _ => none) (fun _ => none) () (fun _ _ _ _ => ()) () (fun _ _ _ _ => ()) (x))
def idx (k : Nat) (x y : FV) : Option FV := (@Option.rec _ (fun _ => Option FV) (none) (fun n => idx2 k x n) (asNat y))
def lenS (x : FV) : Option FV := (@FV.rec (fun _ => Option FV) (fun _ => Unit) (fun _ => Unit) (none) (fun _ => none) (fun _ _ => none) (fun _ => none) (fun _ => none) (fun _ _ => none) (fun _ es _ => some (.int .i64 (.ofNat (len es)))) (fun _ es _ => some (.int .i64 (.ofNat (len es)))) (some (.int .i64 (.ofNat 0))) (fun _ _ _ n => some (.int .i64 (.ofNat n))) (fun _ _ _ _ => none) (fun _ => none) (fun _ => none) (fun _ _ _ => none) (fun _ _ _ => none) (none) (fun _ _ => none) (fun _ _ => none) (fun _ => none) () (fun _ _ _ _ => ()) () (fun _ _ _ _ => ()) (x))
def lenT (x : FV) : Option FV := (@FV.rec (fun _ => Option FV) (fun _ => Unit) (fun _ => Unit) (none) (fun _ => none) (fun _ _ => none) (fun s => some (.int .i64 (.ofNat (len s)))) (fun _ => none) (fun _ _ => none) (fun _ _ _ => none) (fun _ _ _ => none) (none) (fun _ _ _ _ => none) (fun _ _ _ _ => none) (fun _ => none) (fun _ => none) (fun _ _ _ => none) (fun _ _ _ => none) (none) (fun _ _ => none) (fun _ _ => none) (fun _ => none) () (fun _ _ _ _ => ()) () (fun _ _ _ _ => ()) (x))
def byteE (b : UInt8) : Option (List FV) := some [FV.int .u8 (.ofNat b.toNat)]
def onesV (es : List (List FV)) : Bool := allB (allB oneB) es
def shortB (n : Nat) : Bool := Nat.blt n 68719476736
def appNew (sz : Nat) (x : FV) (es news : List (List FV)) (v : Vm) : Out := (@List.rec _ (fun _ => Out) (v.ok x) (fun _ _ _ => (@Bool.rec (fun _ => Out) (.no) (v.new (.rsl sz v.nm 0 (Nat.add (len es) (len news))) (.row sz 0 (app es news))) (shortB (Nat.add (len es) (len news))))) (news))
def appRow3 (sz s k τ off n : Nat) (news es : List (List FV)) (v : Vm) : Out := (@Bool.rec (fun _ => Out) (.no) (.ok (.rsl sz v.nm 0 (Nat.add n (len news))) (putH v.nm (.row sz 0 (app (tak n es) news)) (delH τ v.H)) v.c1) (andB (Nat.beq off 0) (andB (Nat.beq k 0) (andB (Nat.beq s sz) (andB (Nat.ble n (len es)) (andB (freeH v.nm v.H) (shortB (Nat.add n (len news)))))))))
def appRow2 (sz τ off n : Nat) (news : List (List FV)) (o : FObj) (v : Vm) : Out := (@FObj.rec (fun _ => Out) (fun _ => .no) (fun s k es => appRow3 sz s k τ off n news es v) (fun _ => .no) (fun _ _ => .no) (o))
def appRow (sz τ off n : Nat) (news : List (List FV)) (v : Vm) : Out := (@Option.rec _ (fun _ => Out) (.no) (fun o => appRow2 sz τ off n news o v) (lkH τ v.H))
def app2 (sz : Nat) (x : FV) (news : List (List FV)) (v : Vm) : Out := (@Bool.rec (fun _ => Out) (.no) ((@FV.rec (fun _ => Out) (fun _ => Unit) (fun _ => Unit) (.no) (fun _ => .no) (fun _ _ => .no) (fun _ => .no) (fun _ => .no) (fun _ _ => .no) (fun _ _ _ => .no) (fun s es _ => (@Bool.rec (fun _ => Out) (.no) (appNew sz x es news v) (Nat.beq s sz))) (appNew sz x [] news v) (fun s τ off n => (@Bool.rec (fun _ => Out) (.no) (appRow sz τ off n news v) (Nat.beq s sz))) (fun _ _ _ _ => .no) (fun _ => .no) (fun _ => .no) (fun _ _ _ => .no) (fun _ _ _ => .no) (.no) (fun _ _ => .no) (fun _ _ => .no) (fun _ => .no) () (fun _ _ _ _ => ()) () (fun _ _ _ _ => ()) (x))) (onesV news))
def rowSz (sz off n s : Nat) (es : List (List FV)) : Option (List (List FV)) := (@Bool.rec (fun _ => Option (List (List FV))) (none) (some (tak n (drp off es))) (andB (Nat.beq s sz) (Nat.ble (Nat.add off n) (len es))))
def srcO (sz off n : Nat) (o : Option FObj) : Option (List (List FV)) := (@Option.rec _ (fun _ => Option (List (List FV))) (none) (fun o => (@FObj.rec (fun _ => Option (List (List FV))) (fun _ => none) (fun s _ es => rowSz sz off n s es) (fun _ => none) (fun _ _ => none) (o))) (o))
def ifSz (s sz : Nat) (es : List (List FV)) : Option (List (List FV)) := (@Bool.rec (fun _ => Option (List (List FV))) (none) (some es) (Nat.beq s sz))
/-- The elements that are appended, of this size. -/
def srcA (sz : Nat) (x : FV) (H : HT) : Option (List (List FV)) := (@FV.rec (fun _ => Option (List (List FV))) (fun _ => Unit) (fun _ => Unit) (none) (fun _ => none) (fun _ _ => none) (fun s => (@Bool.rec (fun _ => Option (List (List FV))) (none) (mapO byteE s) (Nat.beq sz 1))) (fun _ => none) (fun _ _ => none) (fun s es _ => ifSz s sz es) (fun s es _ => ifSz s sz es) (some []) (fun s τ off n => (@Bool.rec (fun _ => Option (List (List FV))) (none) (srcO sz off n (lkH τ H)) (Nat.beq s sz))) (fun _ _ _ _ => none) (fun _ => none) (fun _ => none) (fun _ _ _ => none) (fun _ _ _ => none) (none) (fun _ _ => none) (fun _ _ => none) (fun _ => none) () (fun _ _ _ _ => ()) () (fun _ _ _ _ => ()) (x))
def appendV (sz : Nat) (x y : FV) (v : Vm) : Out := (@Option.rec _ (fun _ => Out) (.no) (fun news => app2 sz x news v) (srcA sz y v.H))

def optNat (x : Option FV) (d : Nat) : Option Nat := (@Option.rec _ (fun _ => Option Nat) (some d) (fun x => asNat x) (x))
def slS (s : List UInt8) (l h : Nat) : Option FV := (@Bool.rec (fun _ => Option FV) (none) (some (.str (tak (Nat.sub h l) (drp l s)))) (andB (Nat.ble l h) (Nat.ble h (len s))))
def slE (sz : Nat) (es : List (List FV)) (l h : Nat) (m : Option FV) : Option FV := (@Bool.rec (fun _ => Option FV) (none) ((@Option.rec _ (fun _ => Option FV) (some (.sl sz (tak (Nat.sub h l) (drp l es)))) (fun m => (@Option.rec _ (fun _ => Option FV) (none) (fun m => (@Bool.rec (fun _ => Option FV) (none) (some (.slx sz (tak (Nat.sub h l) (drp l es)))) (Nat.beq m h))) (asNat m))) (m))) (andB (Nat.ble l h) (Nat.ble h (len es))))
def slR0 (sz τ off l h : Nat) : FV := (@Bool.rec (fun _ => FV) (.rsl sz τ (Nat.add off l) (Nat.sub h l)) (.sl sz []) (andB (Nat.beq h l) (Nat.blt 0 l)))
def slR (sz τ off n l h : Nat) : Option FV := (@Bool.rec (fun _ => Option FV) (none) (some (slR0 sz τ off l h)) (andB (Nat.ble l h) (Nat.ble h n)))
def slRM (sz n l h : Nat) (m : Option Nat) : Option FV := (@Option.rec _ (fun _ => Option FV) (none) (fun m => (@Bool.rec (fun _ => Option FV) (none) (some (.slx sz [])) (andB (Nat.beq m h) (andB (Nat.beq h l) (Nat.ble h n))))) (m))
def both (l h : Option Nat) (f : Nat → Nat → Option FV) : Option FV := (@Option.rec _ (fun _ => Option FV) (none) (fun l => (@Option.rec _ (fun _ => Option FV) (none) (fun h => f l h) (h))) (l))
/-- A part of a string, of a slice. -/
def slcT (x : FV) (lo hi : Option FV) : Option FV := (@FV.rec (fun _ => Option FV) (fun _ => Unit) (fun _ => Unit) (none) (fun _ => none) (fun _ _ => none) (fun s => both (optNat lo 0) (optNat hi (len s)) (slS s)) (fun _ => none) (fun _ _ => none) (fun _ _ _ => none) (fun _ _ _ => none) (none) (fun _ _ _ _ => none) (fun _ _ _ _ => none) (fun _ => none) (fun _ => none) (fun _ _ _ => none) (fun _ _ _ => none) (none) (fun _ _ => none) (fun _ _ => none) (fun _ => none) () (fun _ _ _ _ => ()) () (fun _ _ _ _ => ()) (x))
def slcS (k : Nat) (x : FV) (lo hi mx : Option FV) : Option FV := (@FV.rec (fun _ => Option FV) (fun _ => Unit) (fun _ => Unit) (none) (fun _ => none) (fun _ _ => none) (fun _ => none) (fun _ => none) (fun _ _ => none) (fun sz es _ => idxZ (Nat.beq sz k) (both (optNat lo 0) (optNat hi (len es)) (fun l h => slE sz es l h mx))) (fun sz es _ => idxZ (Nat.beq sz k) (both (optNat lo 0) (optNat hi (len es)) (fun l h => (@Bool.rec (fun _ => Option FV) (slE sz es l h mx) ((@Option.rec _ (fun _ => Option FV) (some (.slx sz (drp l es))) (fun _ => slE sz es l h mx) (mx))) (andB (Nat.beq h (len es)) (Nat.ble l h)))))) (both (optNat lo 0) (optNat hi 0) (fun l h => (@Option.rec _ (fun _ => Option FV) ((@Bool.rec (fun _ => Option FV) (none) (some x) (Nat.beq (Nat.add l h) 0))) (fun m => (@Option.rec _ (fun _ => Option FV) (none) (fun m => (@Bool.rec (fun _ => Option FV) (none) (some x) (Nat.beq (Nat.add m (Nat.add l h)) 0))) (asNat m))) (mx)))) (fun sz τ off n => idxZ (Nat.beq sz k) (both (optNat lo 0) (optNat hi n) (fun l h => (@Option.rec _ (fun _ => Option FV) (slR sz τ off n l h) (fun m => slRM sz n l h (asNat m)) (mx))))) (fun _ _ _ _ => none) (fun _ => none) (fun _ => none) (fun _ _ _ => none) (fun _ _ _ => none) (none) (fun _ _ => none) (fun _ _ => none) (fun _ => none) () (fun _ _ _ _ => ()) () (fun _ _ _ _ => ()) (x))

structure CF where
  f : CallT → Vm → Out
def cfNo : CF := ⟨fun _ _ => .no⟩
def no1 {α : Type} (_ : α) (_ : Cfg) : CF := cfNo
def no2 {α β : Type} (_ : α) (_ : β) (_ : Cfg) : CF := cfNo
def no3 {α β γ : Type} (_ : α) (_ : β) (_ : γ) (_ : Cfg) : CF := cfNo
def no4 {α β γ δ : Type} (_ : α) (_ : β) (_ : γ) (_ : δ) (_ : Cfg) : CF := cfNo
def cMove (y : Operand) (K : Cfg) : CF := ⟨fun _ v => v.ok (K.ev v y)⟩
def pick1 (x a b : FV) : Option FV := (@Option.rec _ (fun _ => Option FV) (none) (fun t => some (@Bool.rec (fun _ => FV) (b) (a) (t))) (asBool x))
def cPick (q a b : Operand) (K : Cfg) : CF := ⟨fun _ v => v.opt (pick1 (K.ev v q) (K.ev v a) (K.ev v b))⟩
def not1 (x : FV) : Option FV := (@Option.rec _ (fun _ => Option FV) (none) (fun t => some (.bool (!t))) (asBool x))
def neg1 (x : FV) : Option FV := (@FV.rec (fun _ => Option FV) (fun _ => Unit) (fun _ => Unit) (none) (fun _ => none) (fun k n => some (arI k (Int.neg n))) (fun _ => none) (fun _ => none) (fun _ _ => none) (fun _ _ _ => none) (fun _ _ _ => none) (none) (fun _ _ _ _ => none) (fun _ _ _ _ => none) (fun _ => none) (fun _ => none) (fun _ _ _ => none) (fun _ _ _ => none) (none) (fun _ _ => none) (fun _ _ => none) (fun _ => none) () (fun _ _ _ _ => ()) () (fun _ _ _ _ => ()) (x))
def cUn (op : UnOp) (_ : TypeId) (y : Operand) (K : Cfg) : CF := match op with
  | .not => ⟨fun _ v => v.opt (not1 (K.ev v y))⟩
  | .neg => ⟨fun _ v => v.opt (neg1 (K.ev v y))⟩
  | _ => cfNo
def cBin (op : BinOp) (t : TypeId) (x y : Operand) (_ : TypeId) (K : Cfg) : CF := ⟨fun _ v => v.opt (binV (binF op K.P t) (K.ev v x) (K.ev v y))⟩
def shiftO (x : FV) (n : Option Nat) : Option FV := (@Option.rec _ (fun _ => Option FV) (none) (fun n => shiftV x n) (n))
def cFieldAddr (t : TypeId) (y : Operand) (f : Nat) (K : Cfg) : CF := ⟨fun _ v => v.opt (shiftO (K.ev v y) (nth (offsOf K.P t) f))⟩
def ext1 (x : FV) (i : Nat) : Option FV := (@Option.rec _ (fun _ => Option FV) (none) (fun cs => nth cs i) (asTup x))
def cExtract (y : Operand) (i : Nat) (K : Cfg) : CF := ⟨fun _ v => v.opt (ext1 (K.ev v y) i)⟩
def nil1 (x : FV) : Option FV := (@FV.rec (fun _ => Option FV) (fun _ => Unit) (fun _ => Unit) (none) (fun _ => none) (fun _ _ => none) (fun _ => none) (fun _ => none) (fun _ _ => some x) (fun _ _ _ => none) (fun _ _ _ => none) (none) (fun _ _ _ _ => none) (fun _ _ _ _ => some x) (fun _ => none) (fun _ => none) (fun _ _ _ => none) (fun _ _ _ => none) (none) (fun _ _ => none) (fun _ _ => none) (fun _ => none) () (fun _ _ _ _ => ()) () (fun _ _ _ _ => ()) (x))
def cNilCheck (y : Operand) (K : Cfg) : CF := ⟨fun _ v => v.opt (nil1 (K.ev v y))⟩
def evL' (K : Cfg) (v : Vm) : List Operand → List FV
  | [] => []
  | y :: r => K.ev v y :: evL' K v r
def evL (K : Cfg) (v : Vm) (l : List Operand) : List FV := @List.rec Operand (fun _ => List FV) [] (fun y _ ih => K.ev v y :: ih) l
def cMakeFunc (fn : Fn) (first caps : Array Operand) (K : Cfg) : CF := match fn with
  | .func f => match first.toList, caps.toList with
    | [], cs => ⟨fun _ v => v.ok (.fn f (evL K v cs))⟩
    | ps, [] => ⟨fun _ v => v.ok (.mfn f (evL K v ps))⟩
    | _, _ => cfNo
  | _ => cfNo
def partsL' (K : Cfg) (v : Vm) : List (Nat × Operand) → List (Nat × FV)
  | [] => []
  | p :: r => (p.1, K.ev v p.2) :: partsL' K v r
def partsL (K : Cfg) (v : Vm) (l : List (Nat × Operand)) : List (Nat × FV) := @List.rec (Nat × Operand) (fun _ => List (Nat × FV)) [] (fun p _ ih => (p.1, K.ev v p.2) :: ih) l
def okCells (z : FV) (sz : Nat) : Bool := andB (plainV z) (andB (Nat.beq (len (cellsV z)) sz) (Nat.blt 0 sz))
def slT (P : Program) (t : TypeId) (eb : Nat) : Bool := andB (Nat.beq (kdOf P t) 5) (andB (Nat.blt 0 eb) (Nat.ble eb 256))
def fill1 (pl : List (Nat × Nat)) (p : Nat × FV) (cs : List FV) (ih : List FV → Option (List FV)) : Option (List FV) := (@Option.rec _ (fun _ => Option (List FV)) (none) (fun q => (@Bool.rec (fun _ => Option (List FV)) (none) (ih (wrV cs q.1 (cellsV p.2))) (andB (plainV p.2) (andB (Nat.beq (len (cellsV p.2)) q.2) (Nat.ble (Nat.add q.1 q.2) (len cs)))))) (nth pl p.1))
def fillV' (pl : List (Nat × Nat)) : List (Nat × FV) → List FV → Option (List FV)
  | [], cs => some cs
  | p :: r, cs => fill1 pl p cs (fillV' pl r)
def fillV (pl : List (Nat × Nat)) (l : List (Nat × FV)) : List FV → Option (List FV) := @List.rec (Nat × FV) (fun _ => List FV → Option (List FV)) (fun cs => some cs) (fun p _ ih cs => fill1 pl p cs ih) l
def aggO (cs : Option (List FV)) : Option FV := (@Option.rec _ (fun _ => Option FV) (none) (fun cs => some (.agg cs)) (cs))
def buildC (z : FV) (pl : List (Nat × Nat)) (parts : List (Nat × Operand)) (K : Cfg) (b : Bool) : CF := match b with
  | true => ⟨fun _ v => v.opt (aggO (fillV pl (partsL K v parts) (cellsV z)))⟩
  | false => cfNo
def cBuild (t : TypeId) (parts : Array (Nat × Operand)) (K : Cfg) : CF := match zeroOf K.P t, placesOf K.P t with
  | some z, some pl => buildC (ofC z) pl parts.toList K (plainV (ofC z))
  | _, _ => cfNo
def fillE1 (sz : Nat) (p : Nat × FV) (es : List (List FV)) (ih : List (List FV) → Option (List (List FV))) : Option (List (List FV)) := (@Bool.rec (fun _ => Option (List (List FV))) (none) (ih (setNth (cellsV p.2) es p.1)) (andB (plainV p.2) (andB (Nat.beq (len (cellsV p.2)) sz) (Nat.blt p.1 (len es)))))
def fillEV' (sz : Nat) : List (Nat × FV) → List (List FV) → Option (List (List FV))
  | [], cs => some cs
  | p :: r, cs => fillE1 sz p cs (fillEV' sz r)
def fillEV (sz : Nat) (l : List (Nat × FV)) : List (List FV) → Option (List (List FV)) := @List.rec (Nat × FV) (fun _ => List (List FV) → Option (List (List FV))) (fun cs => some cs) (fun p _ ih cs => fillE1 sz p cs ih) l
def slxO (sz : Nat) (es : Option (List (List FV))) : Option FV := (@Option.rec _ (fun _ => Option FV) (none) (fun es => some (.slx sz es)) (es))
def buildSC (z : FV) (sz n : Nat) (parts : List (Nat × Operand)) (K : Cfg) (b : Bool) : CF := match b with
  | true => ⟨fun _ v => v.opt (slxO sz (fillEV sz (partsL K v parts) (rep (cellsV z) n)))⟩
  | false => cfNo
def cBuildSlice (t : TypeId) (n : Nat) (parts : Array (Nat × Operand)) (K : Cfg) : CF := match zeroOf K.P (elOf K.P t), eszOf K.P t with
  | some z, some sz => buildSC (ofC z) sz n parts.toList K (andB (okCells (ofC z) sz) (andB (Nat.beq (kdOf K.P t) 5) (Nat.ble (n * sz) 16777216)))
  | _, _ => cfNo
def idxP2 (sz n m : Nat) (cs : List FV) : Option FV := (@Bool.rec (fun _ => Option FV) (none) (some (.pp (drp (Nat.mul m sz) cs))) (andB (Nat.blt m n) (Nat.ble (Nat.mul m sz) (len cs))))
def idxP1 (sz n : Nat) (x : FV) (m : Nat) : Option FV := (@FV.rec (fun _ => Option FV) (fun _ => Unit) (fun _ => Unit) (none) (fun _ => none) (fun _ _ => none) (fun _ => none) (fun _ => none) (fun cs _ => idxP2 sz n m cs) (fun _ _ _ => none) (fun _ _ _ => none) (none) (fun _ _ _ _ => none) (fun _ _ _ _ => none) (fun _ => none) (fun _ => none) (fun _ _ _ => none) (fun _ _ _ => none) (none) (fun _ _ => none) (fun _ _ => none) (fun _ => none) () (fun _ _ _ _ => ()) () (fun _ _ _ _ => ()) (x))
def idxP (sz n : Nat) (x y : FV) : Option FV := (@Option.rec _ (fun _ => Option FV) (none) (fun m => idxP1 sz n x m) (asNat y))
def idxArr (t : TypeId) (sz : Nat) (x y : Operand) (K : Cfg) : CF := match K.P.underlying t with
  | some (.array n _) => ⟨fun _ v => v.opt (idxP sz n (K.ev v x) (K.ev v y))⟩
  | _ => cfNo
def cIndexAddr (t : TypeId) (x y : Operand) (K : Cfg) : CF := match eszOf K.P t, Nat.beq (kdOf K.P t) 5 with
  | some k, true => ⟨fun _ v => v.opt (idx k (K.ev v x) (K.ev v y))⟩
  | some k, false => idxArr t k x y K
  | _, _ => cfNo
def byte1 (b : Option UInt8) : Option FV := (@Option.rec _ (fun _ => Option FV) (none) (fun b => some (.int .u8 (.ofNat b.toNat))) (b))
def index1 (x y : FV) : Option FV := (@Option.rec _ (fun _ => Option FV) (none) (fun s => (@Option.rec _ (fun _ => Option FV) (none) (fun n => byte1 (nth s n)) (asNat y))) (asStr x))
def cIndex (t : TypeId) (x y : Operand) (K : Cfg) : CF := match Nat.beq (kdOf K.P t) 3 with
  | true => ⟨fun _ v => v.opt (index1 (K.ev v x) (K.ev v y))⟩
  | false => cfNo
def cLoad (t : TypeId) (y : Operand) (K : Cfg) : CF := ⟨fun _ v => v.opt (loadV (ldF K.P t) (K.ev v y) v.H)⟩
def store4 (n sz τ s k i j : Nat) (es : List (List FV)) (e : List FV) (z : FV) (v : Vm) : Out := (@Bool.rec (fun _ => Out) (.no) (.ok .und (putH τ (.row s k (setNth (wrV e j (cellsV z)) es i)) v.H) v.c) (andB (plainV z) (andB (Nat.beq (len (cellsV z)) n) (andB (Nat.ble (Nat.add j n) s) (andB (Nat.ble k i) (Nat.beq s sz))))))
def store2 (n sz τ i j : Nat) (o : FObj) (z : FV) (v : Vm) : Out := (@FObj.rec (fun _ => Out) (fun _ => .no) (fun s k es => (@Option.rec _ (fun _ => Out) (.no) (fun e => store4 n sz τ s k i j es e z v) (nth es i))) (fun _ => .no) (fun _ _ => .no) (o))
def store1 (n : Nat) (x z : FV) (v : Vm) : Out := (@FV.rec (fun _ => Out) (fun _ => Unit) (fun _ => Unit) (.no) (fun _ => .no) (fun _ _ => .no) (fun _ => .no) (fun _ => .no) (fun _ _ => .no) (fun _ _ _ => .no) (fun _ _ _ => .no) (.no) (fun _ _ _ _ => .no) (fun sz τ i j => (@Option.rec _ (fun _ => Out) (.no) (fun o => store2 n sz τ i j o z v) (lkH τ v.H))) (fun _ => .no) (fun _ => .no) (fun _ _ _ => .no) (fun _ _ _ => .no) (.no) (fun _ _ => .no) (fun _ _ => .no) (fun _ => .no) () (fun _ _ _ _ => ()) () (fun _ _ _ _ => ()) (x))
def cStore (t : TypeId) (y z : Operand) (K : Cfg) : CF := match tySize K.P t with
  | some n => ⟨fun _ v => store1 n (K.ev v y) (K.ev v z) v⟩
  | none => cfNo
def allocC (cs : List FV) (sz : Nat) (b : Bool) : CF := match b with
  | true => ⟨fun _ v => v.new (.rp sz v.nm 0 0) (.row sz 0 [cs])⟩
  | false => cfNo
def cAlloc (t : TypeId) (K : Cfg) : CF := match zeroOf K.P t, tySize K.P t with
  | some z, some sz => allocC (cellsV (ofC z)) sz (okCells (ofC z) sz)
  | _, _ => cfNo
def boxV (sz : Nat) (x : FV) (v : Vm) : Out := (@Bool.rec (fun _ => Out) (.no) (v.new (.rp sz v.nm 0 0) (.row sz 0 [cellsV x])) (okCells x sz))
def cBox (t : TypeId) (y : Operand) (K : Cfg) : CF := match tySize K.P t with
  | some sz => ⟨fun _ v => boxV sz (K.ev v y) v⟩
  | none => cfNo
def toByte (e : List FV) : Option UInt8 := (@List.rec _ (fun _ => Option UInt8) (none) (fun x r _ => (@List.rec _ (fun _ => Option UInt8) ((@FV.rec (fun _ => Option UInt8) (fun _ => Unit) (fun _ => Unit) (none) (fun _ => none) (fun k n => (@Bool.rec (fun _ => Option UInt8) (none) (some (UInt8.ofNat n.toNat)) (kEq k .u8))) (fun _ => none) (fun _ => none) (fun _ _ => none) (fun _ _ _ => none) (fun _ _ _ => none) (none) (fun _ _ _ _ => none) (fun _ _ _ _ => none) (fun _ => none) (fun _ => none) (fun _ _ _ => none) (fun _ _ _ => none) (none) (fun _ _ => none) (fun _ _ => none) (fun _ => none) () (fun _ _ _ _ => ()) () (fun _ _ _ _ => ()) (x))) (fun _ _ _ => none) (r))) (e))
def strO (s : Option (List UInt8)) : Option FV := (@Option.rec _ (fun _ => Option FV) (none) (fun s => (@Bool.rec (fun _ => Option FV) (none) (some (.str s)) (shortB (len s)))) (s))
def srcB (x : FV) (H : HT) : Option (List (List FV)) := (@FV.rec (fun _ => Option (List (List FV))) (fun _ => Unit) (fun _ => Unit) (srcA 1 x H) (fun _ => srcA 1 x H) (fun _ _ => srcA 1 x H) (fun _ => none) (fun _ => srcA 1 x H) (fun _ _ => srcA 1 x H) (fun _ _ _ => srcA 1 x H) (fun _ _ _ => srcA 1 x H) (srcA 1 x H) (fun _ _ _ _ => srcA 1 x H) (fun _ _ _ _ => srcA 1 x H) (fun _ => srcA 1 x H) (fun _ => srcA 1 x H) (fun _ _ _ => srcA 1 x H) (fun _ _ _ => srcA 1 x H) (srcA 1 x H) (fun _ _ => srcA 1 x H) (fun _ _ => srcA 1 x H) (fun _ => srcA 1 x H) () (fun _ _ _ _ => ()) () (fun _ _ _ _ => ()) (x))
def toStr (es : Option (List (List FV))) : Option FV := (@Option.rec _ (fun _ => Option FV) (none) (fun es => strO (mapO toByte es)) (es))
def convI (k' : IntKind) (x : FV) : Option FV := (@FV.rec (fun _ => Option FV) (fun _ => Unit) (fun _ => Unit) (none) (fun _ => none) (fun k n => (@Bool.rec (fun _ => Option FV) (some (.int k' (k'.wrap n))) (some x) (kEq k k'))) (fun _ => none) (fun _ => none) (fun _ _ => none) (fun _ _ _ => none) (fun _ _ _ => none) (none) (fun _ _ _ _ => none) (fun _ _ _ _ => none) (fun _ => none) (fun _ => none) (fun _ _ _ => none) (fun _ _ _ => none) (none) (fun _ _ => none) (fun _ _ => none) (fun _ => none) () (fun _ _ _ _ => ()) () (fun _ _ _ _ => ()) (x))
def convC (s d : TypeId) (y : Operand) (K : Cfg) : CF := match K.P.underlying d with
  | some (.int k') => ⟨fun _ v => v.opt (convI k' (K.ev v y))⟩
  | some .string => match Nat.beq (kdOf K.P s) 5, K.P.underlying (elOf K.P s) with
    | true, some (.int .u8) => ⟨fun _ v => v.opt (toStr (srcB (K.ev v y) v.H))⟩
    | _, _ => cfNo
  | _ => cfNo
def cConvert (s d : TypeId) (y : Operand) (K : Cfg) : CF := match tyHas K.P s with
  | true => convC s d y K
  | false => cfNo
def makeS1 (n m : Option Nat) (z : List FV) (sz : Nat) (v : Vm) : Out := (@Option.rec _ (fun _ => Out) (.no) (fun n => (@Option.rec _ (fun _ => Out) (.no) (fun m => (@Bool.rec (fun _ => Out) (.no) (v.new (.rsl sz v.nm 0 n) (.row sz 0 (rep z n))) (andB (Nat.ble n m) (Nat.blt m 68719476736)))) (m))) (n))
def makeC (z : FV) (sz : Nat) (y w : Operand) (K : Cfg) (b : Bool) : CF := match b with
  | true => ⟨fun _ v => makeS1 (asNat (K.ev v y)) (asNat (K.ev v w)) (cellsV z) sz v⟩
  | false => cfNo
def cMakeSlice (t : TypeId) (y z : Operand) (K : Cfg) : CF := match zeroOf K.P (elOf K.P t), eszOf K.P t, ebOf K.P t with
  | some zv, some sz, some eb => makeC (ofC zv) sz y z K (andB (okCells (ofC zv) sz) (slT K.P t eb))
  | _, _, _ => cfNo
def cMakeMap (_ : TypeId) (r : Option Operand) (_ : Cfg) : CF := match r with
  | none => ⟨fun _ v => v.new (.rmp v.nm) (.map [])⟩
  | some _ => cfNo
def evOpt (K : Cfg) (v : Vm) (y : Option Operand) : Option FV := (@Option.rec _ (fun _ => Option FV) (none) (fun y => some (K.ev v y)) (y))
def noM (m : Option Operand) : Bool := match m with
  | none => true
  | some _ => false
def okHM (h m : Option Operand) : Bool := match h, m with
  | none, some _ => false
  | _, _ => true
def cSlice (t : TypeId) (x : Operand) (l h m : Option Operand) (K : Cfg) : CF := match Nat.beq (kdOf K.P t) 3, Nat.beq (kdOf K.P t) 5, eszOf K.P t with
  | true, _, _ => match noM m with
    | true => ⟨fun _ v => v.opt (slcT (K.ev v x) (evOpt K v l) (evOpt K v h))⟩
    | false => cfNo
  | _, true, some sz => match okHM h m with
    | true => ⟨fun _ v => v.opt (slcS sz (K.ev v x) (evOpt K v l) (evOpt K v h) (evOpt K v m))⟩
    | false => cfNo
  | _, _, _ => cfNo

def isStr (x : FV) : Bool := (@FV.rec (fun _ => Bool) (fun _ => Unit) (fun _ => Unit) (false) (fun _ => false) (fun _ _ => false) (fun _ => true) (fun _ => false) (fun _ _ => false) (fun _ _ _ => false) (fun _ _ _ => false) (false) (fun _ _ _ _ => false) (fun _ _ _ _ => false) (fun _ => false) (fun _ => false) (fun _ _ _ => false) (fun _ _ _ => false) (false) (fun _ _ => false) (fun _ _ => false) (fun _ => false) () (fun _ _ _ _ => ()) () (fun _ _ _ _ => ()) (x))
/-- Are two keys the same? -/
def keyEq (x y : FV) : Option Bool := (@FV.rec (fun _ => Option Bool) (fun _ => Unit) (fun _ => Unit) (none) (fun _ => none) (fun _ _ => none) (fun a => (@FV.rec (fun _ => Option Bool) (fun _ => Unit) (fun _ => Unit) (none) (fun _ => none) (fun _ _ => none) (fun b => some (strEq a b)) (fun _ => none) (fun _ _ => none) (fun _ _ _ => none) (fun _ _ _ => none) (none) (fun _ _ _ _ => none) (fun _ _ _ _ => none) (fun _ => none) (fun _ => none) (fun _ _ _ => none) (fun _ _ _ => none) (none) (fun _ _ => none) (fun _ _ => none) (fun _ => none) () (fun _ _ _ _ => ()) () (fun _ _ _ _ => ()) (y))) (fun _ => none) (fun _ _ => none) (fun _ _ _ => none) (fun _ _ _ => none) (none) (fun _ _ _ _ => none) (fun _ _ _ _ => none) (fun _ => none) (fun _ => none) (fun _ _ _ => none) (fun _ _ _ => none) (none) (fun _ _ => none) (fun _ _ => none) (fun _ => none) () (fun _ _ _ _ => ()) () (fun _ _ _ _ => ()) (x))
def mget1 (q : Option Bool) (v : FV) (ih : Option (Option FV)) : Option (Option FV) := (@Option.rec _ (fun _ => Option (Option FV)) (none) (fun b => (@Bool.rec (fun _ => Option (Option FV)) (ih) (some (some v)) (b))) (q))
def mget' (k : FV) : List (FV × FV) → Option (Option FV)
  | [] => some none
  | p :: r => mget1 (keyEq p.1 k) p.2 (mget' k r)
def mget (k : FV) (l : List (FV × FV)) : Option (Option FV) := @List.rec (FV × FV) (fun _ => Option (Option FV)) (some none) (fun p _ ih => mget1 (keyEq p.1 k) p.2 ih) l
def mset1 (q : Option Bool) (v : FV) (p : FV × FV) (r : List (FV × FV)) (ih : Option (List (FV × FV))) : Option (List (FV × FV)) := (@Option.rec _ (fun _ => Option (List (FV × FV))) (none) (fun b => (@Bool.rec (fun _ => Option (List (FV × FV))) (consO p ih) (some ((p.1, v) :: r)) (b))) (q))
def mset' (k v : FV) : List (FV × FV) → Option (List (FV × FV))
  | [] => some [(k, v)]
  | p :: r => mset1 (keyEq p.1 k) v p r (mset' k v r)
def mset (k v : FV) (l : List (FV × FV)) : Option (List (FV × FV)) := @List.rec (FV × FV) (fun _ => Option (List (FV × FV))) (some [(k, v)]) (fun p r ih => mset1 (keyEq p.1 k) v p r ih) l
def mgetO (k : FV) (o : Option (List (FV × FV))) : Option (Option FV) := (@Option.rec _ (fun _ => Option (Option FV)) (none) (fun l => mget k l) (o))
def lookM (x k : FV) (H : HT) : Option (Option FV) := (@Bool.rec (fun _ => Option (Option FV)) (none) ((@FV.rec (fun _ => Option (Option FV)) (fun _ => Unit) (fun _ => Unit) (none) (fun _ => none) (fun _ _ => none) (fun _ => none) (fun _ => none) (fun _ _ => none) (fun _ _ _ => none) (fun _ _ _ => none) (none) (fun _ _ _ _ => none) (fun _ _ _ _ => none) (fun r => (@Option.rec _ (fun _ => Option (Option FV)) (some none) (fun _ => none) (r))) (fun τ => mgetO k (mapAt τ H)) (fun _ _ _ => none) (fun _ _ _ => none) (none) (fun _ _ => none) (fun _ _ => none) (fun _ => none) () (fun _ _ _ _ => ()) () (fun _ _ _ _ => ()) (x))) (isStr k))
def look2 (r : Option FV) (z : FV) (ok : Bool) : FV := (@Option.rec _ (fun _ => FV) ((@Bool.rec (fun _ => FV) (z) (.tup [z, .bool false]) (ok))) (fun v => (@Bool.rec (fun _ => FV) (v) (.tup [v, .bool true]) (ok))) (r))
def look1 (r : Option (Option FV)) (z : FV) (ok : Bool) : Option FV := (@Option.rec _ (fun _ => Option FV) (none) (fun r => some (look2 r z ok)) (r))
def strMap (P : Program) (t : TypeId) : Bool := match P.underlying t with
  | some (.map k _) => Nat.beq (kdOf P k) 3
  | _ => false
def cLookup (t : TypeId) (x y : Operand) (ok : Bool) (K : Cfg) : CF := match zeroOf K.P (elOf K.P t), strMap K.P t with
  | some z, true => ⟨fun _ v => v.opt (look1 (lookM (K.ev v x) (K.ev v y) v.H) (ofC z) ok)⟩
  | _, _ => cfNo
def mapUp3 (τ : Nat) (r : Option (List (FV × FV))) (v : Vm) : Out := (@Option.rec _ (fun _ => Out) (.no) (fun kvs => .ok .und (putH τ (.map kvs) v.H) v.c) (r))
def msetO (k x : FV) (o : Option (List (FV × FV))) : Option (List (FV × FV)) := (@Option.rec _ (fun _ => Option (List (FV × FV))) (none) (fun l => mset k x l) (o))
def mapUp1 (m k x : FV) (v : Vm) : Out := (@FV.rec (fun _ => Out) (fun _ => Unit) (fun _ => Unit) (.no) (fun _ => .no) (fun _ _ => .no) (fun _ => .no) (fun _ => .no) (fun _ _ => .no) (fun _ _ _ => .no) (fun _ _ _ => .no) (.no) (fun _ _ _ _ => .no) (fun _ _ _ _ => .no) (fun _ => .no) (fun τ => mapUp3 τ (msetO k x (mapAt τ v.H)) v) (fun _ _ _ => .no) (fun _ _ _ => .no) (.no) (fun _ _ => .no) (fun _ _ => .no) (fun _ => .no) () (fun _ _ _ _ => ()) () (fun _ _ _ _ => ()) (m))
def mapUp0 (m k x : FV) (v : Vm) : Out := (@Bool.rec (fun _ => Out) (.no) (mapUp1 m k x v) (isStr k))
def cMapUpdate (t : TypeId) (x y z : Operand) (K : Cfg) : CF := match strMap K.P t with
  | true => ⟨fun _ v => mapUp0 (K.ev v x) (K.ev v y) (K.ev v z) v⟩
  | false => cfNo
def minI (x y : FV) (m : Bool) : Option FV := (@FV.rec (fun _ => Option FV) (fun _ => Unit) (fun _ => Unit) (none) (fun _ => none) (fun k a => (@FV.rec (fun _ => Option FV) (fun _ => Unit) (fun _ => Unit) (none) (fun _ => none) (fun k' b => (@Bool.rec (fun _ => Option FV) (none) (some (.int k (@Bool.rec (fun _ => Int) ((@Bool.rec (fun _ => Int) (a) (b) (m))) ((@Bool.rec (fun _ => Int) (b) (a) (m))) (ilt a b)))) (kEq k k'))) (fun _ => none) (fun _ => none) (fun _ _ => none) (fun _ _ _ => none) (fun _ _ _ => none) (none) (fun _ _ _ _ => none) (fun _ _ _ _ => none) (fun _ => none) (fun _ => none) (fun _ _ _ => none) (fun _ _ _ => none) (none) (fun _ _ => none) (fun _ _ => none) (fun _ => none) () (fun _ _ _ _ => ()) () (fun _ _ _ _ => ()) (y))) (fun _ => none) (fun _ => none) (fun _ _ => none) (fun _ _ _ => none) (fun _ _ _ => none) (none) (fun _ _ _ _ => none) (fun _ _ _ _ => none) (fun _ => none) (fun _ => none) (fun _ _ _ => none) (fun _ _ _ => none) (none) (fun _ _ => none) (fun _ _ => none) (fun _ => none) () (fun _ _ _ _ => ()) () (fun _ _ _ _ => ()) (x))
def callV (x : FV) (as : List FV) (call : CallT) (v : Vm) : Out := (@FV.rec (fun _ => Out) (fun _ => Unit) (fun _ => Unit) (.no) (fun _ => .no) (fun _ _ => .no) (fun _ => .no) (fun _ => .no) (fun _ _ => .no) (fun _ _ _ => .no) (fun _ _ _ => .no) (.no) (fun _ _ _ _ => .no) (fun _ _ _ _ => .no) (fun _ => .no) (fun _ => .no) (fun f caps _ => call f (app as caps) v.H v.c) (fun f ps _ => call f (app ps as) v.H v.c) (.no) (fun _ _ => .no) (fun _ _ => .no) (fun _ => .no) () (fun _ _ _ _ => ()) () (fun _ _ _ _ => ()) (x))
def bLen (ts : List TypeId) (as : List Operand) (K : Cfg) : CF := match ts, as with
  | [t], [x] => match Nat.beq (kdOf K.P t) 5, Nat.beq (kdOf K.P t) 3 with
    | true, _ => ⟨fun _ v => v.opt (lenS (K.ev v x))⟩
    | _, true => ⟨fun _ v => v.opt (lenT (K.ev v x))⟩
    | _, _ => cfNo
  | _, _ => cfNo
def appZ1 (sz n : Nat) (z : List FV) (v : Vm) : Out := (@Bool.rec (fun _ => Out) (.no) (v.new (.rsl sz v.nm 0 n) (.row sz 0 (rep z n))) (andB (Nat.blt 0 n) (shortB n)))
/-- So many zeros appended to nil. -/
def appendZ (sz : Nat) (z : List FV) (x y : FV) (v : Vm) : Out := (@FV.rec (fun _ => Out) (fun _ => Unit) (fun _ => Unit) (.no) (fun _ => .no) (fun _ _ => .no) (fun _ => .no) (fun _ => .no) (fun _ _ => .no) (fun _ _ _ => .no) (fun _ _ _ => .no) ((@Option.rec _ (fun _ => Out) (.no) (fun n => appZ1 sz n z v) (asNat y))) (fun _ _ _ _ => .no) (fun _ _ _ _ => .no) (fun _ => .no) (fun _ => .no) (fun _ _ _ => .no) (fun _ _ _ => .no) (.no) (fun _ _ => .no) (fun _ _ => .no) (fun _ => .no) () (fun _ _ _ _ => ()) () (fun _ _ _ _ => ()) (x))
def appZC (z : FV) (sz : Nat) (x y : Operand) (K : Cfg) (b : Bool) : CF := match b with
  | true => ⟨fun _ v => appendZ sz (cellsV z) (K.ev v x) (K.ev v y) v⟩
  | false => cfNo
def appC (sz : Nat) (x y : Operand) (K : Cfg) (b : Bool) : CF := match b with
  | true => ⟨fun _ v => appendV sz (K.ev v x) (K.ev v y) v⟩
  | false => cfNo
def bAppend (ts : List TypeId) (as : List Operand) (K : Cfg) : CF := match ts, as with
  | [t, u], [x, y] => match zeroOf K.P (elOf K.P t), eszOf K.P t, ebOf K.P t with
    | some zv, some sz, some eb => match Nat.beq (kdOf K.P u) 2 with
      | true => appZC (ofC zv) sz x y K (andB (okCells (ofC zv) sz) (slT K.P t eb))
      | false => appC sz x y K (andB (andB (okCells (ofC zv) sz) (slT K.P t eb)) (Nat.beq (kdOf K.P u) 5 || Nat.beq (kdOf K.P u) 3))
    | _, _, _ => cfNo
  | _, _ => cfNo
def bMin (m : Bool) (as : List Operand) (K : Cfg) : CF := match as with
  | [x, y] => ⟨fun _ v => v.opt (minI (K.ev v x) (K.ev v y) m)⟩
  | _ => cfNo
def capV (x : FV) : Option FV := (@FV.rec (fun _ => Option FV) (fun _ => Unit) (fun _ => Unit) (none) (fun _ => none) (fun _ _ => none) (fun _ => none) (fun _ => none) (fun _ _ => none) (fun _ _ _ => none) (fun _ es _ => some (.int .i64 (.ofNat (len es)))) (some (.int .i64 (.ofNat 0))) (fun _ _ _ _ => none) (fun _ _ _ _ => none) (fun _ => none) (fun _ => none) (fun _ _ _ => none) (fun _ _ _ => none) (none) (fun _ _ => none) (fun _ _ => none) (fun _ => none) () (fun _ _ _ _ => ()) () (fun _ _ _ _ => ()) (x))
def bCap (ts : List TypeId) (as : List Operand) (K : Cfg) : CF := match ts, as with
  | [t], [x] => match Nat.beq (kdOf K.P t) 5 with
    | true => ⟨fun _ v => v.opt (capV (K.ev v x))⟩
    | false => cfNo
  | _, _ => cfNo
def clearR (sz τ off n s k : Nat) (z : List FV) (es : List (List FV)) (v : Vm) : Out := (@Bool.rec (fun _ => Out) (.no) (.ok (.tup []) (putH τ (.row s k (app (tak off es) (app (rep z n) (drp (Nat.add off n) es)))) v.H) v.c) (andB (Nat.ble (Nat.add off n) (len es)) (andB (Nat.beq k 0) (Nat.beq s sz))))
def clear2 (sz τ off n : Nat) (z : List FV) (o : FObj) (v : Vm) : Out := (@FObj.rec (fun _ => Out) (fun _ => .no) (fun s k es => clearR sz τ off n s k z es v) (fun _ => .no) (fun _ _ => .no) (o))
def clear3 (k τ off n : Nat) (z : List FV) (v : Vm) : Out := (@Option.rec _ (fun _ => Out) (.no) (fun o => clear2 k τ off n z o v) (lkH τ v.H))
def clear1 (k : Nat) (x : FV) (z : List FV) (v : Vm) : Out := (@FV.rec (fun _ => Out) (fun _ => Unit) (fun _ => Unit) (.no) (fun _ => .no) (fun _ _ => .no) (fun _ => .no) (fun _ => .no) (fun _ _ => .no) (fun _ _ _ => .no) (fun _ _ _ => .no) (v.ok (.tup [])) (fun sz τ off n => (@Bool.rec (fun _ => Out) (.no) ((@Bool.rec (fun _ => Out) (clear3 k τ off n z v) (v.ok (.tup [])) (Nat.beq n 0))) (Nat.beq sz k))) (fun _ _ _ _ => .no) (fun _ => .no) (fun _ => .no) (fun _ _ _ => .no) (fun _ _ _ => .no) (.no) (fun _ _ => .no) (fun _ _ => .no) (fun _ => .no) () (fun _ _ _ _ => ()) () (fun _ _ _ _ => ()) (x))
def clearC (z : FV) (sz : Nat) (x : Operand) (K : Cfg) (b : Bool) : CF := match b with
  | true => ⟨fun _ v => clear1 sz (K.ev v x) (cellsV z) v⟩
  | false => cfNo
def bClear (ts : List TypeId) (as : List Operand) (K : Cfg) : CF := match ts, as with
  | [t], [x] => match zeroOf K.P (elOf K.P t), eszOf K.P t with
    | some z, some sz => clearC (ofC z) sz x K (andB (okCells (ofC z) sz) (Nat.beq (kdOf K.P t) 5))
    | _, _ => cfNo
  | _, _ => cfNo
def bSel (b : Builtin) (ts : List TypeId) (as : List Operand) (K : Cfg) : CF := match b with
  | .len => bLen ts as K
  | .append => bAppend ts as K
  | .cap => bCap ts as K
  | .clear => bClear ts as K
  | .min => bMin true as K
  | .max => bMin false as K
  | _ => cfNo
def cCall (k : Call) (K : Cfg) : CF := match k.callee with
  | .value fo => ⟨fun call v => callV (K.ev v fo) (evL K v k.args.toList) call v⟩
  | .builtin b => bSel b k.argTypes.toList k.args.toList K
  | _ => cfNo

/-- An operation, made ready. -/
def compO (o : Op) (K : Cfg) : CF := Op.casesOn (motive := fun _ => Cfg → CF) o
  cMove cMove cPick cAlloc cBox cBuild cBuildSlice no4 cLoad cStore no1 no1 cNilCheck cBin cUn cConvert no2 no2 cMakeFunc cMakeMap no2 cMakeSlice cSlice cFieldAddr no3 cIndexAddr cIndex cLookup cMapUpdate
  no3 no4 no2 no2 no1 no4 cExtract cCall no1 no1 no1 no2 no3 no2 K

end
end Go.Fs

namespace Go.Fs
open Go
noncomputable section

inductive RO where
  | no
  | ok (E : ET) (H : HT) (c : Nat)
instance : Inhabited RO := ⟨.no⟩

def notB (v : Value) : Option Bool := match v with
  | .bool _ => none
  | _ => some false
def gd1 (want : Bool) (x : FV) : Option Bool := (@FV.rec (fun _ => Option Bool) (fun _ => Unit) (fun _ => Unit) (none) (fun b => some (@Bool.rec (fun _ => Bool) (!want) (want) (b))) (fun _ _ => none) (fun _ => none) (fun _ => none) (fun _ _ => none) (fun _ _ _ => none) (fun _ _ _ => none) (none) (fun _ _ _ _ => none) (fun _ _ _ _ => none) (fun _ => none) (fun _ => none) (fun _ _ _ => none) (fun _ _ _ => none) (none) (fun _ _ => none) (fun _ _ => none) (fun v => notB v) () (fun _ _ _ _ => ()) () (fun _ _ _ _ => ()) (x))
structure GF where
  f : ET → Option Bool
def gdF (ops : Array Oper) (g : Option (Nat × Bool)) : GF := match g with
  | none => ⟨fun _ => some true⟩
  | some (j, want) => match (ops[j]?).bind (·.dst) with
    | some d => ⟨fun E => gd1 want (lkS E d)⟩
    | none => ⟨fun _ => none⟩
structure PF where
  f : FV → ET → ET
def putF (d : Option Nat) : PF := match d with
  | none => ⟨fun _ E => E⟩
  | some d => ⟨fun x E => putS d x E⟩
def putR (p : PF) (E : ET) (o : Out) : RO := (@Out.rec (fun _ => RO) (.no) (fun x H c => .ok (p.f x E) H c) (o))
def stepG (g : Option Bool) (o : Oper) (K : Cfg) (call : CallT) (v : Vm) : RO := (@Option.rec _ (fun _ => RO) (.no) (fun b => (@Bool.rec (fun _ => RO) (.ok ((putF o.dst).f (.val undef) v.E) v.H v.c) (putR (putF o.dst) v.E ((compO o.op K).f call v)) (b))) (g))
def stepO (K : Cfg) (call : CallT) (ops : Array Oper) (o : Oper) (E : ET) (H : HT) (c : Nat) : RO := stepG ((gdF ops o.guard).f E) o K call ⟨c, Nat.succ c, c, E, H⟩
def andThen (r : RO) (k : ET → HT → Nat → RO) : RO := (@RO.rec (fun _ => RO) (.no) (fun E H c => k E H c) (r))
def opsR' (K : Cfg) (call : CallT) (ops : Array Oper) : List Oper → ET → HT → Nat → RO
  | [], E, H, c => .ok E H c
  | o :: l, E, H, c => match stepO K call ops o E H c with
    | .ok E H c => opsR' K call ops l E H c
    | .no => .no
/-- Operations one after the other. -/
def opsR (K : Cfg) (call : CallT) (ops : Array Oper) (l : List Oper) : ET → HT → Nat → RO :=
  @List.rec Oper (fun _ => ET → HT → Nat → RO) (fun E H c => .ok E H c) (fun o _ ih E H c => andThen (stepO K call ops o E H c) ih) l

def namesV (x : FV) : List Nat := (@FV.rec (fun _ => List Nat) (fun _ => Unit) (fun _ => Unit) ([]) (fun _ => []) (fun _ _ => []) (fun _ => []) (fun _ => []) (fun _ _ => []) (fun _ _ _ => []) (fun _ _ _ => []) ([]) (fun _ t _ _ => [t]) (fun _ t _ _ => [t]) (fun _ => []) (fun _ => []) (fun _ _ _ => []) (fun _ _ _ => []) ([]) (fun _ _ => []) (fun _ _ => []) (fun _ => []) () (fun _ _ _ _ => ()) () (fun _ _ _ _ => ()) (x))
/-- The names that a store looks at. -/
def fpO (o : Op) (K : Cfg) (E : ET) : Option (List Nat) := match o with
  | .store _ y _ => some (namesV (evT K E y))
  | _ => none
def hasN (l : List Nat) (t : Nat) : Bool := l.any fun k => Nat.beq k t
def apartN (a b : List Nat) : Bool := a.all fun t => !(hasN b t)
def same1' (ih : FV → FV → Bool) : List FV → List FV → Bool
  | [], [] => true
  | x :: r, y :: t => match ih x y with
    | true => same1' ih r t
    | false => false
  | _, _ => false
def same2L' (ih : FV → FV → Bool) : List (List FV) → List (List FV) → Bool
  | [], [] => true
  | x :: r, y :: t => match same1' ih x y with
    | true => same2L' ih r t
    | false => false
  | _, _ => false
def same1 (ih : FV → FV → Bool) (a : List FV) : List FV → Bool := @List.rec FV (fun _ => List FV → Bool) (fun b => (@List.rec _ (fun _ => Bool) (true) (fun _ _ _ => false) (b))) (fun x _ f b => (@List.rec _ (fun _ => Bool) (false) (fun y r _ => (@Bool.rec (fun _ => Bool) (false) (f r) (ih x y))) (b))) a
def same2L (ih : FV → FV → Bool) (a : List (List FV)) : List (List FV) → Bool := @List.rec (List FV) (fun _ => List (List FV) → Bool) (fun b => (@List.rec _ (fun _ => Bool) (true) (fun _ _ _ => false) (b))) (fun x _ f b => (@List.rec _ (fun _ => Bool) (false) (fun y r _ => (@Bool.rec (fun _ => Bool) (false) (f r) (same1 ih x y))) (b))) a
/-- Are two values the same? -/
def sameS (ih : FV → FV → Bool) (x y : FV) : Bool := (@FV.rec (fun _ => Bool) (fun _ => Unit) (fun _ => Unit) (false) (fun a => (@FV.rec (fun _ => Bool) (fun _ => Unit) (fun _ => Unit) (false) (fun b => (@Bool.rec (fun _ => Bool) ((@Bool.rec (fun _ => Bool) (true) (false) (b))) (b) (a))) (fun _ _ => false) (fun _ => false) (fun _ => false) (fun _ _ => false) (fun _ _ _ => false) (fun _ _ _ => false) (false) (fun _ _ _ _ => false) (fun _ _ _ _ => false) (fun _ => false) (fun _ => false) (fun _ _ _ => false) (fun _ _ _ => false) (false) (fun _ _ => false) (fun _ _ => false) (fun _ => false) () (fun _ _ _ _ => ()) () (fun _ _ _ _ => ()) (y))) (fun k a => (@FV.rec (fun _ => Bool) (fun _ => Unit) (fun _ => Unit) (false) (fun _ => false) (fun k' b => andB (kEq k k') (ieq a b)) (fun _ => false) (fun _ => false) (fun _ _ => false) (fun _ _ _ => false) (fun _ _ _ => false) (false) (fun _ _ _ _ => false) (fun _ _ _ _ => false) (fun _ => false) (fun _ => false) (fun _ _ _ => false) (fun _ _ _ => false) (false) (fun _ _ => false) (fun _ _ => false) (fun _ => false) () (fun _ _ _ _ => ()) () (fun _ _ _ _ => ()) (y))) (fun a => (@FV.rec (fun _ => Bool) (fun _ => Unit) (fun _ => Unit) (false) (fun _ => false) (fun _ _ => false) (fun b => strEq a b) (fun _ => false) (fun _ _ => false) (fun _ _ _ => false) (fun _ _ _ => false) (false) (fun _ _ _ _ => false) (fun _ _ _ _ => false) (fun _ => false) (fun _ => false) (fun _ _ _ => false) (fun _ _ _ => false) (false) (fun _ _ => false) (fun _ _ => false) (fun _ => false) () (fun _ _ _ _ => ()) () (fun _ _ _ _ => ()) (y))) (fun _ => false) (fun cs _ => (@FV.rec (fun _ => Bool) (fun _ => Unit) (fun _ => Unit) (false) (fun _ => false) (fun _ _ => false) (fun _ => false) (fun _ => false) (fun ds _ => same1 ih cs ds) (fun _ _ _ => false) (fun _ _ _ => false) (false) (fun _ _ _ _ => false) (fun _ _ _ _ => false) (fun _ => false) (fun _ => false) (fun _ _ _ => false) (fun _ _ _ => false) (false) (fun _ _ => false) (fun _ _ => false) (fun _ => false) () (fun _ _ _ _ => ()) () (fun _ _ _ _ => ()) (y))) (fun k es _ => (@FV.rec (fun _ => Bool) (fun _ => Unit) (fun _ => Unit) (false) (fun _ => false) (fun _ _ => false) (fun _ => false) (fun _ => false) (fun _ _ => false) (fun m fs _ => andB (Nat.beq k m) (same2L ih es fs)) (fun _ _ _ => false) (false) (fun _ _ _ _ => false) (fun _ _ _ _ => false) (fun _ => false) (fun _ => false) (fun _ _ _ => false) (fun _ _ _ => false) (false) (fun _ _ => false) (fun _ _ => false) (fun _ => false) () (fun _ _ _ _ => ()) () (fun _ _ _ _ => ()) (y))) (fun k es _ => (@FV.rec (fun _ => Bool) (fun _ => Unit) (fun _ => Unit) (false) (fun _ => false) (fun _ _ => false) (fun _ => false) (fun _ => false) (fun _ _ => false) (fun _ _ _ => false) (fun m fs _ => andB (Nat.beq k m) (same2L ih es fs)) (false) (fun _ _ _ _ => false) (fun _ _ _ _ => false) (fun _ => false) (fun _ => false) (fun _ _ _ => false) (fun _ _ _ => false) (false) (fun _ _ => false) (fun _ _ => false) (fun _ => false) () (fun _ _ _ _ => ()) () (fun _ _ _ _ => ()) (y))) ((@FV.rec (fun _ => Bool) (fun _ => Unit) (fun _ => Unit) (false) (fun _ => false) (fun _ _ => false) (fun _ => false) (fun _ => false) (fun _ _ => false) (fun _ _ _ => false) (fun _ _ _ => false) (true) (fun _ _ _ _ => false) (fun _ _ _ _ => false) (fun _ => false) (fun _ => false) (fun _ _ _ => false) (fun _ _ _ => false) (false) (fun _ _ => false) (fun _ _ => false) (fun _ => false) () (fun _ _ _ _ => ()) () (fun _ _ _ _ => ()) (y))) (fun a b c d => (@FV.rec (fun _ => Bool) (fun _ => Unit) (fun _ => Unit) (false) (fun _ => false) (fun _ _ => false) (fun _ => false) (fun _ => false) (fun _ _ => false) (fun _ _ _ => false) (fun _ _ _ => false) (false) (fun e f g h => andB (Nat.beq a e) (andB (Nat.beq b f) (andB (Nat.beq c g) (Nat.beq d h)))) (fun _ _ _ _ => false) (fun _ => false) (fun _ => false) (fun _ _ _ => false) (fun _ _ _ => false) (false) (fun _ _ => false) (fun _ _ => false) (fun _ => false) () (fun _ _ _ _ => ()) () (fun _ _ _ _ => ()) (y))) (fun a b c d => (@FV.rec (fun _ => Bool) (fun _ => Unit) (fun _ => Unit) (false) (fun _ => false) (fun _ _ => false) (fun _ => false) (fun _ => false) (fun _ _ => false) (fun _ _ _ => false) (fun _ _ _ => false) (false) (fun _ _ _ _ => false) (fun e f g h => andB (Nat.beq a e) (andB (Nat.beq b f) (andB (Nat.beq c g) (Nat.beq d h)))) (fun _ => false) (fun _ => false) (fun _ _ _ => false) (fun _ _ _ => false) (false) (fun _ _ => false) (fun _ _ => false) (fun _ => false) () (fun _ _ _ _ => ()) () (fun _ _ _ _ => ()) (y))) (fun _ => false) (fun a => (@FV.rec (fun _ => Bool) (fun _ => Unit) (fun _ => Unit) (false) (fun _ => false) (fun _ _ => false) (fun _ => false) (fun _ => false) (fun _ _ => false) (fun _ _ _ => false) (fun _ _ _ => false) (false) (fun _ _ _ _ => false) (fun _ _ _ _ => false) (fun _ => false) (fun b => Nat.beq a b) (fun _ _ _ => false) (fun _ _ _ => false) (false) (fun _ _ => false) (fun _ _ => false) (fun _ => false) () (fun _ _ _ _ => ()) () (fun _ _ _ _ => ()) (y))) (fun f cs _ => (@FV.rec (fun _ => Bool) (fun _ => Unit) (fun _ => Unit) (false) (fun _ => false) (fun _ _ => false) (fun _ => false) (fun _ => false) (fun _ _ => false) (fun _ _ _ => false) (fun _ _ _ => false) (false) (fun _ _ _ _ => false) (fun _ _ _ _ => false) (fun _ => false) (fun _ => false) (fun g ds _ => andB (Nat.beq f g) (same1 ih cs ds)) (fun _ _ _ => false) (false) (fun _ _ => false) (fun _ _ => false) (fun _ => false) () (fun _ _ _ _ => ()) () (fun _ _ _ _ => ()) (y))) (fun f cs _ => (@FV.rec (fun _ => Bool) (fun _ => Unit) (fun _ => Unit) (false) (fun _ => false) (fun _ _ => false) (fun _ => false) (fun _ => false) (fun _ _ => false) (fun _ _ _ => false) (fun _ _ _ => false) (false) (fun _ _ _ _ => false) (fun _ _ _ _ => false) (fun _ => false) (fun _ => false) (fun _ _ _ => false) (fun g ds _ => andB (Nat.beq f g) (same1 ih cs ds)) (false) (fun _ _ => false) (fun _ _ => false) (fun _ => false) () (fun _ _ _ _ => ()) () (fun _ _ _ _ => ()) (y))) ((@FV.rec (fun _ => Bool) (fun _ => Unit) (fun _ => Unit) (false) (fun _ => false) (fun _ _ => false) (fun _ => false) (fun _ => false) (fun _ _ => false) (fun _ _ _ => false) (fun _ _ _ => false) (false) (fun _ _ _ _ => false) (fun _ _ _ _ => false) (fun _ => false) (fun _ => false) (fun _ _ _ => false) (fun _ _ _ => false) (true) (fun _ _ => false) (fun _ _ => false) (fun _ => false) () (fun _ _ _ _ => ()) () (fun _ _ _ _ => ()) (y))) (fun cs _ => (@FV.rec (fun _ => Bool) (fun _ => Unit) (fun _ => Unit) (false) (fun _ => false) (fun _ _ => false) (fun _ => false) (fun _ => false) (fun _ _ => false) (fun _ _ _ => false) (fun _ _ _ => false) (false) (fun _ _ _ _ => false) (fun _ _ _ _ => false) (fun _ => false) (fun _ => false) (fun _ _ _ => false) (fun _ _ _ => false) (false) (fun ds _ => same1 ih cs ds) (fun _ _ => false) (fun _ => false) () (fun _ _ _ _ => ()) () (fun _ _ _ _ => ()) (y))) (fun cs _ => (@FV.rec (fun _ => Bool) (fun _ => Unit) (fun _ => Unit) (false) (fun _ => false) (fun _ _ => false) (fun _ => false) (fun _ => false) (fun _ _ => false) (fun _ _ _ => false) (fun _ _ _ => false) (false) (fun _ _ _ _ => false) (fun _ _ _ _ => false) (fun _ => false) (fun _ => false) (fun _ _ _ => false) (fun _ _ _ => false) (false) (fun _ _ => false) (fun ds _ => same1 ih cs ds) (fun _ => false) () (fun _ _ _ _ => ()) () (fun _ _ _ _ => ()) (y))) (fun _ => false) () (fun _ _ _ _ => ()) () (fun _ _ _ _ => ()) (x))
def sameV' : Nat → FV → FV → Bool
  | 0, _, _ => false
  | n + 1, x, y => sameS (sameV' n) x y
def sameV (n : Nat) : FV → FV → Bool := @Nat.rec (fun _ => FV → FV → Bool) (fun _ _ => false) (fun _ ih x y => sameS ih x y) n
/-- A load that was carried out, the pointer and the value. -/
structure Rem where
  t : TypeId
  p : FV
  x : FV
def remO (o : Op) (K : Cfg) (E : ET) (d : Option Nat) (E' : ET) : Option Rem := match o, d with
  | .load t y, some d => some ⟨t, evT K E y, lkS E' d⟩
  | _, _ => none
def still1 (K : Cfg) (H : HT) (m : Rem) : Bool := (@Option.rec _ (fun _ => Bool) (false) (fun x => sameV 60 m.x x) (loadV (ldF K.P m.t) m.p H))
def stillA' (K : Cfg) (H : HT) (l : List Rem) : Bool := l.all (still1 K H)
def stillA (K : Cfg) (H : HT) (l : List Rem) : Bool := allB (still1 K H) l
structure Seen where
  ns : List Nat
  rs : List Rem
def wantsF (g : Option Bool) : Bool := (@Option.rec _ (fun _ => Bool) (false) (fun b => b) (g))
/-- An operation of a region that has an order of its own. 2: looks only at names that no other 2 has looked at or made; 3: a load whose value is kept; 4: after it all such values are as before. -/
def opX (K : Cfg) (call : CallT) (ops : Array Oper) (o : Oper) (f : Nat) (seen : Seen) (ih : Seen → ET → HT → Nat → RO) (E : ET) (H : HT) (c : Nat) : RO := match f with
  | 0 => andThen (stepO K call ops o E H c) (ih seen)
  | 2 => match fpO o.op K E with
    | none => .no
    | some fp => (@Bool.rec (fun _ => RO) (.no) (andThen (stepO K call ops o E H c) (ih ⟨c :: app fp seen.ns, seen.rs⟩)) (apartN fp seen.ns))
  | 3 => andThen (stepO K call ops o E H c) (fun E' H' c' => (@Bool.rec (fun _ => RO) (ih seen E' H' c') ((@Option.rec _ (fun _ => RO) (.no) (fun m => ih ⟨seen.ns, m :: seen.rs⟩ E' H' c') (remO o.op K E o.dst E'))) (wantsF ((gdF ops o.guard).f E))))
  | 4 => andThen (stepO K call ops o E H c) (fun E' H' c' => (@Bool.rec (fun _ => RO) (.no) (ih seen E' H' c') (stillA K H' seen.rs)))
  | _ => .no
def opsX' (K : Cfg) (call : CallT) (ops : Array Oper) : List (Nat × Nat) → Seen → ET → HT → Nat → RO
  | [], _, E, H, c => .ok E H c
  | p :: l, seen, E, H, c => match ops[p.1]? with
    | none => .no
    | some o => match opX K call ops o p.2 seen (fun s E H c => opsX' K call ops l s E H c) E H c with
      | .ok E H c => .ok E H c
      | .no => .no
/-- The same where the region has an order of its own. -/
def opsX (K : Cfg) (call : CallT) (ops : Array Oper) (l : List (Nat × Nat)) : Seen → ET → HT → Nat → RO :=
  @List.rec (Nat × Nat) (fun _ => Seen → ET → HT → Nat → RO) (fun _ E H c => .ok E H c) (fun p _ ih seen E H c => match ops[p.1]? with
    | none => .no
    | some o => opX K call ops o p.2 seen ih E H c) l
structure OF where
  f : CallT → ET → HT → Nat → RO
/-- A region, made ready. -/
def regO (K : Cfg) (fid id : Nat) (ops : Array Oper) (draw : Bool) : OF := match draw with
  | false => ⟨fun call => opsR K call ops ops.toList⟩
  | true => match K.ord fid id with
    | none => ⟨fun call => opsR K call ops ops.toList⟩
    | some l => ⟨fun call => opsX K call ops l ⟨[], []⟩⟩

def argE' : List FV → Nat → ET → ET
  | [], _, E => E
  | x :: r, i, E => argE' r (i + 1) (putS i x E)
def argE (args : List FV) : Nat → ET → ET := @List.rec FV (fun _ => Nat → ET → ET) (fun _ E => E) (fun x _ ih i E => ih (Nat.succ i) (putS i x E)) args

def res1 (K : Cfg) (E : ET) (H : HT) (r : ResultVar) : Option FV := (@ResultVar.rec (fun _ => Option FV) (fun t => some (lkS E t)) (fun t ty => loadV (ldF K.P ty) (lkS E t) H) (r))
def tupO (l : Option (List FV)) : Option FV := (@Option.rec _ (fun _ => Option FV) (none) (fun l => some (.tup l)) (l))
structure RF where
  f : ET → HT → Option FV
def resF (K : Cfg) (rs : List ResultVar) : RF := match rs with
  | [] => ⟨fun _ _ => some (.tup [])⟩
  | [r] => ⟨fun E H => res1 K E H r⟩
  | rs => ⟨fun E H => tupO (mapO (res1 K E H) rs)⟩
def outO (x : Option FV) (H : HT) (c : Nat) : Out := (@Option.rec _ (fun _ => Out) (.no) (fun x => .ok x H c) (x))
def outV (K : Cfg) (rs : List ResultVar) (r : RO) : Out := (@RO.rec (fun _ => Out) (.no) (fun E H c => outO ((resF K rs).f E H) H c) (r))

abbrev RunT := Nat → List Item → ET → HT → Nat → RO

structure EF where
  f : RunT → List FV → HT → Nat → Out
/-- A function, made ready. -/
def entF (K : Cfg) (f : Nat) : EF := match K.nat f with
  | some g => ⟨fun _ args H c => g args H c⟩
  | none => match K.body f with
    | some fn => match fn.body with
      | some b => ⟨fun run args H c => (@Bool.rec (fun _ => Out) (.no) (outV K fn.results.toList (run f [.code b] (argE args 0 E0T) H c)) (Nat.ble (len args) fn.ntmps))⟩
      | none => ⟨fun _ _ _ _ => .no⟩
    | none => ⟨fun _ _ _ _ => .no⟩
def callF (K : Cfg) (run : RunT) : CallT := fun f args H c => (entF K f).f run args H c

structure CodeF where
  f : RunT → Nat → ET → HT → Nat → RO
abbrev CodeT := Cfg → List Item → CodeF
def kSkip : CodeT := fun _ k => ⟨fun ih fid E H c => ih fid k E H c⟩
def kRet : CodeT := fun _ _ => ⟨fun _ _ E H c => .ok E H c⟩
def kNo : CodeT := fun _ _ => ⟨fun _ _ _ _ _ => .no⟩
def kGo (k' : List Item) : CodeF := ⟨fun ih fid E H c => ih fid k' E H c⟩
def kSeq (x y : Code) : CodeT := fun _ k => kGo (.code x :: .code y :: k)
def kBlock (id : Nat) (x : Code) : CodeT := fun _ k => kGo (.code x :: .inBlock id :: k)
def kLoop (x : Code) : CodeT := fun _ k => kGo (.code x :: .inLoop x :: k)
def kJump (k : Option (List Item)) : CodeF := match k with
  | some k => kGo k
  | none => ⟨fun _ _ _ _ _ => .no⟩
def kExit (id : Nat) : CodeT := fun _ k => kJump (exitTo id k)
def goC (q : Option Bool) (x y : Code) (ih : RunT) (k : List Item) (fid : Nat) (E : ET) (H : HT) (c : Nat) : RO := (@Option.rec _ (fun _ => RO) (.no) (fun b => ih fid (.code (@Bool.rec (fun _ => Code) (y) (x) (b)) :: k) E H c) (q))
def kCond (q : Operand) (x y : Code) : CodeT := fun K k => ⟨fun ih fid E H c => goC (asBool (evT K E q)) x y ih k fid E H c⟩
def kRegion (id : Nat) (ops : Array Oper) (draw : Bool) : CodeT := fun K k => ⟨fun ih fid E H c => andThen ((regO K fid id ops draw).f (callF K ih) E H c) (ih fid k)⟩
def kNo4 {α β γ δ : Type} (_ : α) (_ : β) (_ : γ) (_ : δ) : CodeT := kNo
def kNo1 {α : Type} (_ : α) : CodeT := kNo
def kSkip1 {α : Type} (_ : α) : CodeT := kSkip
def stCode (x : Code) : CodeT := Code.casesOn (motive := fun _ => CodeT) x kSkip kRegion kSeq kCond kBlock kLoop kNo4 kExit kNo1 kSkip1 kNo1 kRet kNo1
def stItem (it : Item) : CodeT := match it with
  | .code x => stCode x
  | .inBlock _ => kSkip
  | .inLoop x => kLoop x
  | _ => kNo
def stList (k : List Item) (K : Cfg) : CodeF := match k with
  | [] => ⟨fun _ _ E H c => .ok E H c⟩
  | it :: k => stItem it K k

/-- Until the frame's return. -/
def runI (K : Cfg) (f : Nat) : RunT := @Nat.rec (fun _ => RunT) (fun _ _ _ _ _ => .no) (fun _ ih fid k E H c => (stList k K).f ih fid E H c) f

end
end Go.Fs

namespace Go.Fs
open Go
noncomputable section

/-- Does a value name nothing? -/
def freeS (ih : FV → Bool) (x : FV) : Bool := (@FV.rec (fun _ => Bool) (fun _ => Unit) (fun _ => Unit) (true) (fun _ => true) (fun _ _ => true) (fun _ => true) (fun _ => true) (fun cs _ => allB ih cs) (fun _ es _ => allB (allB ih) es) (fun _ es _ => allB (allB ih) es) (true) (fun _ _ _ _ => false) (fun _ _ _ _ => false) (fun _ => true) (fun _ => false) (fun _ cs _ => allB ih cs) (fun _ cs _ => allB ih cs) (true) (fun cs _ => allB ih cs) (fun cs _ => allB ih cs) (fun _ => true) () (fun _ _ _ _ => ()) () (fun _ _ _ _ => ()) (x))
def freeV' : Nat → FV → Bool
  | 0, _ => false
  | n + 1, x => freeS (freeV' n) x
def freeV (n : Nat) : FV → Bool := @Nat.rec (fun _ => FV → Bool) (fun _ => false) (fun _ ih x => freeS ih x) n
def wrapO (f : List FV → FV) (cs : Option (List FV)) : Option FV := (@Option.rec _ (fun _ => Option FV) (none) (fun cs => some (f cs)) (cs))
def wrapE (f : List (List FV) → FV) (es : Option (List (List FV))) : Option FV := (@Option.rec _ (fun _ => Option FV) (none) (fun es => some (f es)) (es))
def frozen3 (sz off n s k : Nat) (es : List (List FV)) : Option (List (List FV)) := (@Bool.rec (fun _ => Option (List (List FV))) (none) (some (tak n (drp off es))) (andB (Nat.beq s sz) (andB (Nat.beq k (len es)) (Nat.ble (Nat.add off n) (len es)))))
def frozen2 (sz off n : Nat) (o : Option FObj) : Option (List (List FV)) := (@Option.rec _ (fun _ => Option (List (List FV))) (none) (fun o => (@FObj.rec (fun _ => Option (List (List FV))) (fun _ => none) (fun s k es => frozen3 sz off n s k es) (fun _ => none) (fun _ _ => none) (o))) (o))
def mapEs (ih : FV → Option FV) (es : Option (List (List FV))) : Option (List (List FV)) := (@Option.rec _ (fun _ => Option (List (List FV))) (none) (fun es => mapO (mapO ih) es) (es))
/-- The value with frozen rows taken for plain slices. -/
def thawS (H : HT) (ih : FV → Option FV) (x : FV) : Option FV := (@FV.rec (fun _ => Option FV) (fun _ => Unit) (fun _ => Unit) (some x) (fun _ => some x) (fun _ _ => some x) (fun _ => some x) (fun _ => some x) (fun cs _ => wrapO .pp (mapO ih cs)) (fun sz es _ => wrapE (.sl sz) (mapO (mapO ih) es)) (fun sz es _ => wrapE (.slx sz) (mapO (mapO ih) es)) (some x) (fun sz τ off n => wrapE (.sl sz) (mapEs ih (frozen2 sz off n (lkH τ H)))) (fun _ _ _ _ => none) (fun _ => some x) (fun _ => none) (fun g cs _ => wrapO (.fn g) (mapO ih cs)) (fun g cs _ => wrapO (.mfn g) (mapO ih cs)) (some x) (fun cs _ => wrapO .agg (mapO ih cs)) (fun cs _ => wrapO .tup (mapO ih cs)) (fun _ => some x) () (fun _ _ _ _ => ()) () (fun _ _ _ _ => ()) (x))
def thaw' (H : HT) : Nat → FV → Option FV
  | 0, _ => none
  | n + 1, x => thawS H (thaw' H n) x
def thaw (H : HT) (n : Nat) : FV → Option FV := @Nat.rec (fun _ => FV → Option FV) (fun _ => none) (fun _ ih x => thawS H ih x) n
def foldV' (f : FV → HT → HT) : List FV → HT → HT
  | [], H => H
  | x :: r, H => foldV' f r (f x H)
def foldV (f : FV → HT → HT) (l : List FV) : HT → HT := @List.rec FV (fun _ => HT → HT) (fun H => H) (fun x _ ih H => ih (f x H)) l
def foldE' (f : FV → HT → HT) : List (List FV) → HT → HT
  | [], H => H
  | x :: r, H => foldE' f r (foldV f x H)
def foldE (f : FV → HT → HT) (l : List (List FV)) : HT → HT := @List.rec (List FV) (fun _ => HT → HT) (fun H => H) (fun x _ ih H => ih (foldV f x H)) l
def frzR (τ : Nat) (ih : FV → HT → HT) (o : Option FObj) (H : HT) : HT := (@Option.rec _ (fun _ => HT) (H) (fun o => (@FObj.rec (fun _ => HT) (fun _ => H) (fun s _ es => foldE ih es (putH τ (.row s (len es) es) H)) (fun _ => H) (fun _ _ => H) (o))) (o))
/-- All rows that a value comes to are frozen. -/
def frzS (ih : FV → HT → HT) (x : FV) (H : HT) : HT := (@FV.rec (fun _ => HT) (fun _ => Unit) (fun _ => Unit) (H) (fun _ => H) (fun _ _ => H) (fun _ => H) (fun _ => H) (fun cs _ => foldV ih cs H) (fun _ es _ => foldE ih es H) (fun _ es _ => foldE ih es H) (H) (fun _ τ _ _ => frzR τ ih (lkH τ H) H) (fun _ _ _ _ => H) (fun _ => H) (fun _ => H) (fun _ cs _ => foldV ih cs H) (fun _ cs _ => foldV ih cs H) (H) (fun cs _ => foldV ih cs H) (fun cs _ => foldV ih cs H) (fun _ => H) () (fun _ _ _ _ => ()) () (fun _ _ _ _ => ()) (x))
def frz' : Nat → FV → HT → HT
  | 0, _, H => H
  | n + 1, x, H => frzS (frz' n) x H
def frz (n : Nat) : FV → HT → HT := @Nat.rec (fun _ => FV → HT → HT) (fun _ H => H) (fun _ ih x H => frzS ih x H) n
structure Ent3 where
  f : Nat
  args : List FV
  res : FV
def tabGo' (f : Nat) (ys : List FV) : List Ent3 → Option FV
  | [] => none
  | e :: r => match andB (Nat.beq e.f f) (same1 (sameV 100) e.args ys) with
    | true => some e.res
    | false => tabGo' f ys r
/-- The first fitting result of a table. -/
def tabGo (f : Nat) (ys : List FV) (l : List Ent3) : Option FV := @List.rec Ent3 (fun _ => Option FV) none (fun e _ ih => (@Bool.rec (fun _ => Option FV) (ih) (some e.res) (andB (Nat.beq e.f f) (same1 (sameV 100) e.args ys)))) l
def tabO (f : Nat) (t : List Ent3) (H : HT) (c : Nat) (ys : Option (List FV)) : Out := (@Option.rec _ (fun _ => Out) (.no) (fun ys => outO (tabGo f ys t) H c) (ys))
def tabH (f : Nat) (t : List Ent3) (args : List FV) (c : Nat) (H : HT) : Out := tabO f t H c (mapO (thaw H 100) args)
/-- A function that is known at some arguments. -/
def tabN (f : Nat) (t : List Ent3) (args : List FV) (H : HT) (c : Nat) : Out := tabH f t args c (foldV (frz 100) args H)
/-- A call's result, without names. -/
def pureO (o : Out) : Option FV := (@Out.rec (fun _ => Option FV) (none) (fun x H _ => thaw (frz 100 x H) 100 x) (o))

end
end Go.Fs

namespace Go.Fs
open Go
noncomputable section
structure EvF where
  f : ET → FV
def evTq (t : Nat) : {b : EvF // b = ⟨fun E => Acc.g (aE t) E⟩} := by delta Acc.g; exact ⟨_, rfl⟩
/-- An operand, made ready. -/
def evC (K : Cfg) (y : Operand) : EvF := match y with
  | .tmp t => (evTq t).1
  | .const c => ⟨fun _ => ofC c⟩
  | .global g => ⟨fun _ => evG g K⟩
  | .func f => ⟨fun _ => .fn f []⟩
theorem evC_eq (K : Cfg) (y : Operand) (E : ET) : (evC K y).f E = evT K E y := by
  cases y with
  | tmp t => rfl
  | _ => rfl
def putTq (t : Nat) : {b : PF // b = ⟨fun x (E : ET) => (Acc.u (aE t) x E : ET)⟩} := by delta Acc.u; exact ⟨_, rfl⟩
def putC (d : Option Nat) : PF := match d with
  | none => ⟨fun _ E => E⟩
  | some t => (putTq t).1
theorem putC_eq (d : Option Nat) (x : FV) (E : ET) : (putC d).f x E = (putF d).f x E := by
  cases d with
  | none => rfl
  | some t => rfl

abbrev FinT := ET → HT → Nat → RO
/-- Operations and what comes after them. -/
structure CtF where
  f : CallT → FinT → ET → HT → Nat → RO
/-- What an operation gives that only reads. -/
structure GtF where
  f : ET → HT → Option FV
def kMoveq (d : PF) (y : EvF) (r : CtF) : {b : CtF // b = ⟨fun call fin E H c => CtF.f r call fin (PF.f d (EvF.f y E) E) H c⟩} := by
  delta CtF.f PF.f EvF.f; exact ⟨_, rfl⟩
def kOptq (d : PF) (g : GtF) (r : CtF) : {b : CtF // b = ⟨fun call fin E H c => @Option.rec FV (fun _ => RO) .no (fun x => CtF.f r call fin (PF.f d x E) H c) (GtF.f g E H)⟩} := by
  delta CtF.f PF.f GtF.f; exact ⟨_, rfl⟩
def kGenq (d : PF) (g : CF) (r : CtF) : {b : CtF // b = ⟨fun call fin E H c => @Out.rec (fun _ => RO) .no (fun x H' c' => CtF.f r call fin (PF.f d x E) H' c') (CF.f g call ⟨c, Nat.succ c, c, E, H⟩)⟩} := by
  delta CtF.f PF.f CF.f; exact ⟨_, rfl⟩
def kGdq (d : PF) (g : GF) (a r : CtF) : {b : CtF // b = ⟨fun call fin E H c => @Option.rec Bool (fun _ => RO) .no (fun q => @Bool.rec (fun _ => RO) (CtF.f r call fin (PF.f d (.val undef) E) H c) (CtF.f a call fin E H c) q) (GF.f g E)⟩} := by
  delta CtF.f PF.f GF.f; exact ⟨_, rfl⟩
def gBinq (b : BinF) (x y : EvF) : {b' : GtF // b' = ⟨fun E _ => binV b (EvF.f x E) (EvF.f y E)⟩} := by delta EvF.f; exact ⟨_, rfl⟩
def gLoadq (b : LdF) (x : EvF) : {b' : GtF // b' = ⟨fun E H => loadV b (EvF.f x E) H⟩} := by delta EvF.f; exact ⟨_, rfl⟩
def gFieldq (n : Option Nat) (x : EvF) : {b' : GtF // b' = ⟨fun E _ => shiftO (EvF.f x E) n⟩} := by delta EvF.f; exact ⟨_, rfl⟩
def gPickq (q a b : EvF) : {b' : GtF // b' = ⟨fun E _ => pick1 (EvF.f q E) (EvF.f a E) (EvF.f b E)⟩} := by delta EvF.f; exact ⟨_, rfl⟩
def gNilq (x : EvF) : {b' : GtF // b' = ⟨fun E _ => nil1 (EvF.f x E)⟩} := by delta EvF.f; exact ⟨_, rfl⟩
def gExtq (x : EvF) (i : Nat) : {b' : GtF // b' = ⟨fun E _ => ext1 (EvF.f x E) i⟩} := by delta EvF.f; exact ⟨_, rfl⟩
def gd1q (want : Bool) (x : EvF) : {b : GF // b = ⟨fun E => gd1 want (EvF.f x E)⟩} := by delta EvF.f; exact ⟨_, rfl⟩
/-- One operation, made ready, and what comes after it. -/
def kOp (K : Cfg) (o : Oper) (r : CtF) : CtF := match o.op with
  | .move y => (kMoveq (putC o.dst) (evC K y) r).1
  | .assign y => (kMoveq (putC o.dst) (evC K y) r).1
  | .binOp op t x y _ => (kOptq (putC o.dst) (gBinq (binF op K.P t) (evC K x) (evC K y)).1 r).1
  | .load t y => (kOptq (putC o.dst) (gLoadq (ldF K.P t) (evC K y)).1 r).1
  | .fieldAddr t y f => (kOptq (putC o.dst) (gFieldq (nth (offsOf K.P t) f) (evC K y)).1 r).1
  | .pick q a b => (kOptq (putC o.dst) (gPickq (evC K q) (evC K a) (evC K b)).1 r).1
  | .nilCheck y => (kOptq (putC o.dst) (gNilq (evC K y)).1 r).1
  | .extract y i => (kOptq (putC o.dst) (gExtq (evC K y) i).1 r).1
  | o' => (kGenq (putC o.dst) (compO o' K) r).1
def kStep (K : Cfg) (ops : Array Oper) (o : Oper) (r : CtF) : CtF := match o.guard with
  | none => kOp K o r
  | some (j, want) => match (ops[j]?).bind (·.dst) with
    | some d => (kGdq (putC o.dst) (gd1q want (evC K (.tmp d))).1 (kOp K o r) r).1
    | none => ⟨fun _ _ _ _ _ => .no⟩
/-- Operations one after the other. -/
def kOps (K : Cfg) (ops : Array Oper) (l : List Oper) : CtF := @List.rec Oper (fun _ => CtF) ⟨fun _ fin E H c => fin E H c⟩ (fun o _ ih => kStep K ops o ih) l

section
variable {K : Cfg} {call : CallT} {fin : FinT} {E : ET} {H : HT} {c : Nat}

theorem opt_eq (d : Option Nat) (g : GtF) (r : CtF) (q : Option FV) (hq : g.f E H = q) : (kOptq (putC d) g r).1.f call fin E H c = andThen (putR (putF d) E ((Vm.mk c (Nat.succ c) c E H).opt q)) (r.f call fin) := by
  rw [(kOptq (putC d) g r).2]
  show @Option.rec FV (fun _ => RO) .no (fun x => r.f call fin ((putC d).f x E) H c) (g.f E H) = _
  rw [hq]
  cases q with
  | none => rfl
  | some x =>
    show r.f call fin ((putC d).f x E) H c = _
    rw [putC_eq]; rfl

theorem gen_eq (d : Option Nat) (g : CF) (r : CtF) : (kGenq (putC d) g r).1.f call fin E H c = andThen (putR (putF d) E (g.f call ⟨c, Nat.succ c, c, E, H⟩)) (r.f call fin) := by
  rw [(kGenq (putC d) g r).2]
  show @Out.rec (fun _ => RO) .no (fun x H' c' => r.f call fin ((putC d).f x E) H' c') (g.f call ⟨c, Nat.succ c, c, E, H⟩) = _
  cases g.f call ⟨c, Nat.succ c, c, E, H⟩ with
  | no => rfl
  | ok x H' c' =>
    show r.f call fin ((putC d).f x E) H' c' = _
    rw [putC_eq]; rfl

theorem move_eq (d : Option Nat) (y : Operand) (r : CtF) : (kMoveq (putC d) (evC K y) r).1.f call fin E H c = andThen (putR (putF d) E ((Vm.mk c (Nat.succ c) c E H).ok (evT K E y))) (r.f call fin) := by
  rw [(kMoveq (putC d) (evC K y) r).2]
  show r.f call fin ((putC d).f ((evC K y).f E) E) H c = _
  rw [putC_eq, evC_eq]; rfl

theorem kOp_eq (o : Oper) (r : CtF) : (kOp K o r).f call fin E H c = andThen (putR (putF o.dst) E ((compO o.op K).f call ⟨c, Nat.succ c, c, E, H⟩)) (r.f call fin) := by
  obtain ⟨d, op, ty, pos, after, gd⟩ := o
  cases op with
  | move y => exact move_eq _ _ _
  | assign y => exact move_eq _ _ _
  | binOp op t x y u => exact opt_eq _ _ _ _ (by rw [(gBinq _ _ _).2]; show binV _ ((evC K x).f E) ((evC K y).f E) = _; rw [evC_eq, evC_eq]; rfl)
  | load t y => exact opt_eq _ _ _ _ (by rw [(gLoadq _ _).2]; show loadV _ ((evC K y).f E) H = _; rw [evC_eq]; rfl)
  | fieldAddr t y f => exact opt_eq _ _ _ _ (by rw [(gFieldq _ _).2]; show shiftO ((evC K y).f E) _ = _; rw [evC_eq]; rfl)
  | pick q a b => exact opt_eq _ _ _ _ (by rw [(gPickq _ _ _).2]; show pick1 ((evC K q).f E) ((evC K a).f E) ((evC K b).f E) = _; rw [evC_eq, evC_eq, evC_eq]; rfl)
  | nilCheck y => exact opt_eq _ _ _ _ (by rw [(gNilq _).2]; show nil1 ((evC K y).f E) = _; rw [evC_eq]; rfl)
  | extract y i => exact opt_eq _ _ _ _ (by rw [(gExtq _ _).2]; show ext1 ((evC K y).f E) i = _; rw [evC_eq]; rfl)
  | _ => exact gen_eq _ _ _

theorem kStep_eq (ops : Array Oper) (o : Oper) (r : CtF) : (kStep K ops o r).f call fin E H c = andThen (stepO K call ops o E H c) (r.f call fin) := by
  unfold kStep stepO stepG gdF
  cases hg : o.guard with
  | none => exact kOp_eq o r
  | some p =>
    obtain ⟨j, want⟩ := p
    dsimp only
    cases (ops[j]?).bind (·.dst) with
    | none => rfl
    | some d =>
      dsimp only
      rw [(kGdq _ _ _ _).2]
      show @Option.rec Bool (fun _ => RO) .no (fun q => @Bool.rec (fun _ => RO) (r.f call fin ((putC o.dst).f (.val undef) E) H c) ((kOp K o r).f call fin E H c) q) ((gd1q want (evC K (.tmp d))).1.f E) = _
      rw [(gd1q want _).2]
      show @Option.rec Bool (fun _ => RO) .no (fun q => @Bool.rec (fun _ => RO) (r.f call fin ((putC o.dst).f (.val undef) E) H c) ((kOp K o r).f call fin E H c) q) (gd1 want ((evC K (.tmp d)).f E)) = _
      rw [evC_eq]
      show _ = andThen (@Option.rec Bool (fun _ => RO) .no (fun q => @Bool.rec (fun _ => RO) (.ok ((putF o.dst).f (.val undef) E) H c) (putR (putF o.dst) E ((compO o.op K).f call ⟨c, Nat.succ c, c, E, H⟩)) q) (gd1 want (lkS E d))) _
      show @Option.rec Bool (fun _ => RO) .no _ (gd1 want (lkS E d)) = _
      cases gd1 want (lkS E d) with
      | none => rfl
      | some q =>
        cases q with
        | false =>
          show r.f call fin ((putC o.dst).f (.val undef) E) H c = _
          rw [putC_eq]; rfl
        | true => exact kOp_eq o r

theorem andThen_assoc (q : RO) (f g : FinT) : andThen (andThen q f) g = andThen q (fun E H c => andThen (f E H c) g) := by
  cases q <;> rfl

theorem kOps_eq (ops : Array Oper) : ∀ (l : List Oper) (E : ET) (H : HT) (c : Nat), (kOps K ops l).f call fin E H c = andThen (opsR K call ops l E H c) fin
  | [], E, H, c => rfl
  | o :: l, E, H, c => by
    show (kStep K ops o (kOps K ops l)).f call fin E H c = andThen (andThen (stepO K call ops o E H c) (opsR K call ops l)) fin
    rw [kStep_eq, andThen_assoc]
    congr 1
    funext E H c
    exact kOps_eq ops l E H c
end

def kXq (g : OF) : {b : CtF // b = ⟨fun call fin E H c => andThen (OF.f g call E H c) fin⟩} := by delta OF.f; exact ⟨_, rfl⟩
/-- A region, made ready. -/
def regC (K : Cfg) (fid id : Nat) (ops : Array Oper) (draw : Bool) : CtF := match draw with
  | false => kOps K ops ops.toList
  | true => match K.ord fid id with
    | none => kOps K ops ops.toList
    | some l => (kXq ⟨fun call => opsX K call ops l ⟨[], []⟩⟩).1
theorem regC_eq {K : Cfg} {call : CallT} {fin : FinT} {E : ET} {H : HT} {c : Nat} (fid id : Nat) (ops : Array Oper) (draw : Bool) : (regC K fid id ops draw).f call fin E H c = andThen ((regO K fid id ops draw).f call E H c) fin := by
  unfold regC regO
  cases draw with
  | false => exact kOps_eq ops ops.toList E H c
  | true =>
    dsimp only
    cases K.ord fid id with
    | none => exact kOps_eq ops ops.toList E H c
    | some l => dsimp only; rw [(kXq _).2]

def qRegionq (r : Nat → CtF) (K : Cfg) (k : List Item) : {b : CodeF // b = ⟨fun ih fid E H c => CtF.f (r fid) (callF K ih) (ih fid k) E H c⟩} := by delta CtF.f; exact ⟨_, rfl⟩
def qRegion (id : Nat) (ops : Array Oper) (draw : Bool) : CodeT := fun K k => (qRegionq (fun fid => regC K fid id ops draw) K k).1
def qCondq (q : EvF) (x y : Code) (k : List Item) : {b : CodeF // b = ⟨fun ih fid E H c => @Option.rec Bool (fun _ => RO) .no (fun b => @Bool.rec (fun _ => RO) (ih fid (.code y :: k) E H c) (ih fid (.code x :: k) E H c) b) (asBool (EvF.f q E))⟩} := by delta EvF.f; exact ⟨_, rfl⟩
def qCond (q : Operand) (x y : Code) : CodeT := fun K k => (qCondq (evC K q) x y k).1
def stCodeQ (x : Code) : CodeT := Code.casesOn (motive := fun _ => CodeT) x kSkip qRegion kSeq qCond kBlock kLoop kNo4 kExit kNo1 kSkip1 kNo1 kRet kNo1
def stItemQ (it : Item) : CodeT := match it with
  | .code x => stCodeQ x
  | .inBlock _ => kSkip
  | .inLoop x => kLoop x
  | _ => kNo
def stListQ (k : List Item) (K : Cfg) : CodeF := match k with
  | [] => ⟨fun _ _ E H c => .ok E H c⟩
  | it :: k => stItemQ it K k
def runQ (K : Cfg) (f : Nat) : RunT := @Nat.rec (fun _ => RunT) (fun _ _ _ _ _ => .no) (fun _ ih fid k E H c => CodeF.f (stListQ k K) ih fid E H c) f

theorem stListQ_eq (K : Cfg) (k : List Item) (ih : RunT) (fid : Nat) (E : ET) (H : HT) (c : Nat) : (stListQ k K).f ih fid E H c = (stList k K).f ih fid E H c := by
  cases k with
  | nil => rfl
  | cons it k =>
    cases it with
    | code x =>
      cases x with
      | region id ops draw =>
        show (qRegion id ops draw K k).f ih fid E H c = andThen ((regO K fid id ops draw).f (callF K ih) E H c) (ih fid k)
        unfold qRegion
        rw [(qRegionq _ _ _).2]
        exact regC_eq fid id ops draw
      | cond q x y =>
        show (qCond q x y K k).f ih fid E H c = goC (asBool (evT K E q)) x y ih k fid E H c
        unfold qCond
        rw [(qCondq _ _ _ _).2]
        show @Option.rec Bool (fun _ => RO) .no _ (asBool ((evC K q).f E)) = _
        rw [evC_eq]
        unfold goC
        cases asBool (evT K E q) with
        | none => rfl
        | some b => cases b <;> rfl
      | _ => rfl
    | _ => rfl

theorem runQ_eq (K : Cfg) : ∀ f, runQ K f = runI K f
  | 0 => rfl
  | f + 1 => by
    funext fid k E H c
    show (stListQ k K).f (runQ K f) fid E H c = (stList k K).f (runI K f) fid E H c
    rw [runQ_eq K f, stListQ_eq]
end
end Go.Fs
