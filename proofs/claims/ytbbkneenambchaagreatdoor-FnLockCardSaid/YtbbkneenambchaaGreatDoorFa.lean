/- Abstract values, what it means that memory holds them, and the states of the logic. States of a frame, what an operation does to them, and that the model's operation does the same. Loads and stores of variables, where a block of cells is known. Operations that neither read nor write owned memory. Operations that neither read nor write owned memory, second part: types, strings, fields, indices, slices. Operations that neither read nor write owned memory, third part: composites, parts of slices and strings. What one operation does to a state of the logic, and that the machine does the same. The rest of a frame's work, as a list of what is still to be done; and the contract of a function out of its body. Conditions: none. -/
import Derived.Calls
import Derived.KernelRfl
import Derived.Below
import Derived.Laws.Cells
import Derived.Laws.Rows
import Derived.Laws.Bits
import Derived.Laws.Strings
import Derived.Laws.Tables
import Derived.Laws.DeepStrings4
import Derived.Laws.Slices

namespace Go.Fs
open Go

/-- Abstract values. A slice that is only read is the list of its elements, each the list of its cells. -/
inductive FV where
  | und
  | bool (b : Bool)
  | int (k : IntKind) (n : Int)
  | str (s : List UInt8)
  | ptr (a : Option (Nat × Nat))
  | pp (cs : List FV)
  | sl (sz : Nat) (es : List (List FV))
  | slx (sz : Nat) (es : List (List FV))
  | nilsl
  | rsl (sz b off len : Nat)
  | rp (sz t i j : Nat)
  | mp (r : Option Nat)
  | rmp (t : Nat)
  | fn (f : Nat) (cs : List FV)
  | mfn (f : Nat) (ps : List FV)
  | nilFn
  | agg (cs : List FV)
  | tup (cs : List FV)
  | val (v : Value)

instance : Inhabited FV := ⟨.und⟩

/-- What never changes again. -/
structure Ctx where
  cell : Nat → Nat → Option Value
  size : Nat → Option Nat
  /-- of a row's name: its block; none: it has no room at all -/
  nm : Nat → Option (Option Nat)
  old : Nat → Option Obj
  os : Os
  out : Array (Nat × ByteArray)
  tape : Nat → Question → Nat

structure Ctx.le (Z Z' : Ctx) : Prop where
  cell : ∀ b i v, Z.cell b i = some v → Z'.cell b i = some v
  size : ∀ b n, Z.size b = some n → Z'.size b = some n
  nm : ∀ t x, Z.nm t = some x → Z'.nm t = some x
  old : ∀ b o, Z.old b = some o → Z'.old b = some o
  os : Z'.os = Z.os
  out : Z'.out = Z.out
  tape : Z'.tape = Z.tape

theorem Ctx.le.refl (Z : Ctx) : Ctx.le Z Z := ⟨fun _ _ _ h => h, fun _ _ h => h, fun _ _ h => h, fun _ _ h => h, rfl, rfl, rfl⟩
theorem Ctx.le.trans {A B C : Ctx} (h : Ctx.le A B) (k : Ctx.le B C) : Ctx.le A C :=
  ⟨fun b i v x => k.cell b i v (h.cell b i v x), fun b n x => k.size b n (h.size b n x), fun b n x => k.nm b n (h.nm b n x), fun b o x => k.old b o (h.old b o x), k.os.trans h.os, k.out.trans h.out, k.tape.trans h.tape⟩

/-- No slice and no string is longer. -/
abbrev LB : Nat := 68719476736

inductive VR (Z : Ctx) : FV → Value → Prop where
  | und (v : Value) : VR Z .und v
  | bool (b : Bool) : VR Z (.bool b) (.bool b)
  | int (k : IntKind) (n : Int) (h : k.has n) : VR Z (.int k n) (.int k n)
  | str (s : List UInt8) (h : s.length < LB) : VR Z (.str s) (.string ⟨⟨s⟩⟩)
  | ptrN : VR Z (.ptr none) (.pointer none)
  | ptr (b o : Nat) : VR Z (.ptr (some (b, o))) (.pointer (some ⟨b, o, none⟩))
  | pp (cs : List FV) (b o : Nat) (vs : Nat → Value) (h : ∀ i, i < cs.length → Z.cell b (o + i) = some (vs i))
      (hv : ∀ i, i < cs.length → VR Z (cs.getD i .und) (vs i)) : VR Z (.pp cs) (.pointer (some ⟨b, o, none⟩))
  | sl (sz : Nat) (es : List (List FV)) (b o : Nat) (vs : Nat → Value) (cap : Nat) (hz : ∀ e, e ∈ es → e.length = sz)
      (h : ∀ i, i < es.length * sz → Z.cell b (o + i) = some (vs i))
      (hv : ∀ i j, i < es.length → j < sz → VR Z ((es.getD i []).getD j .und) (vs (i * sz + j))) (hc : es.length ≤ cap) (hb : es.length < LB) :
      VR Z (.sl sz es) (.slice (some ⟨b, o, none⟩) es.length cap)
  | slN (sz : Nat) : VR Z (.sl sz []) (.slice none 0 0)
  | slN' (sz : Nat) (a : Option Addr) : VR Z (.sl sz []) (.slice a 0 0)
  | slx (sz : Nat) (es : List (List FV)) (b o : Nat) (vs : Nat → Value) (hz : ∀ e, e ∈ es → e.length = sz)
      (h : ∀ i, i < es.length * sz → Z.cell b (o + i) = some (vs i))
      (hv : ∀ i j, i < es.length → j < sz → VR Z ((es.getD i []).getD j .und) (vs (i * sz + j))) (hb : es.length < LB) :
      VR Z (.slx sz es) (.slice (some ⟨b, o, none⟩) es.length es.length)
  | slxN (sz : Nat) (a : Option Addr) : VR Z (.slx sz []) (.slice a 0 0)
  | nilsl : VR Z .nilsl (.slice none 0 0)
  | rsl (sz t b off len cap : Nat) (hn : Z.nm t = some (some b)) (hs : Z.size b = some ((off + cap) * sz)) (hl : len ≤ cap) (hb : len < LB) :
      VR Z (.rsl sz t off len) (.slice (some ⟨b, off * sz, none⟩) len cap)
  | rsl0 (sz t : Nat) (a : Option Addr) (hn : Z.nm t = some none) : VR Z (.rsl sz t 0 0) (.slice a 0 0)
  | rp (sz t i j b : Nat) (hn : Z.nm t = some (some b)) : VR Z (.rp sz t i j) (.pointer (some ⟨b, i * sz + j, none⟩))
  | mpN : VR Z (.mp none) (.map none)
  | mp (r : Nat) : VR Z (.mp (some r)) (.map (some r))
  | rmp (t b : Nat) (hn : Z.nm t = some (some b)) : VR Z (.rmp t) (.map (some b))
  | fn (f : Nat) (cs : List FV) (vs : Array Value) (hl : vs.size = cs.length)
      (hv : ∀ i, i < cs.length → VR Z (cs.getD i .und) (vs.getD i undef)) : VR Z (.fn f cs) (.func (.func f) #[] vs)
  | mfn (f : Nat) (ps : List FV) (vs : Array Value) (hl : vs.size = ps.length)
      (hv : ∀ i, i < ps.length → VR Z (ps.getD i .und) (vs.getD i undef)) : VR Z (.mfn f ps) (.func (.func f) vs #[])
  | nilFn : VR Z .nilFn .nilFunc
  | agg (cs : List FV) (vs : Array Value) (hl : vs.size = cs.length)
      (hv : ∀ i, i < cs.length → VR Z (cs.getD i .und) (vs.getD i undef)) : VR Z (.agg cs) (.agg vs)
  | tup (cs : List FV) (vs : Array Value) (hl : vs.size = cs.length)
      (hv : ∀ i, i < cs.length → VR Z (cs.getD i .und) (vs.getD i undef)) : VR Z (.tup cs) (.tuple vs)
  | val (v : Value) : VR Z (.val v) v

theorem VR.mono {Z Z' : Ctx} (h : Ctx.le Z Z') {x : FV} {v : Value} (r : VR Z x v) : VR Z' x v := by
  induction r with
  | und v => exact .und v
  | bool b => exact .bool b
  | int k n hk => exact .int k n hk
  | str s hs => exact .str s hs
  | ptrN => exact .ptrN
  | ptr b o => exact .ptr b o
  | pp cs b o vs hc _ ih => exact .pp cs b o vs (fun i hi => h.cell _ _ _ (hc i hi)) ih
  | sl sz es b o vs cap hz hc _ hcap hb ih => exact .sl sz es b o vs cap hz (fun i hi => h.cell _ _ _ (hc i hi)) ih hcap hb
  | slN sz => exact .slN sz
  | slN' sz a => exact .slN' sz a
  | slx sz es b o vs hz hc _ hb ih => exact .slx sz es b o vs hz (fun i hi => h.cell _ _ _ (hc i hi)) ih hb
  | slxN sz a => exact .slxN sz a
  | nilsl => exact .nilsl
  | rsl sz t b off len cap hn hs hl hb => exact .rsl sz t b off len cap (h.nm _ _ hn) (h.size _ _ hs) hl hb
  | rsl0 sz t a hn => exact .rsl0 sz t a (h.nm _ _ hn)
  | rp sz t i j b hn => exact .rp sz t i j b (h.nm _ _ hn)
  | mpN => exact .mpN
  | mp r => exact .mp r
  | rmp t b hn => exact .rmp t b (h.nm _ _ hn)
  | fn f cs vs hl _ ih => exact .fn f cs vs hl ih
  | mfn f ps vs hl _ ih => exact .mfn f ps vs hl ih
  | nilFn => exact .nilFn
  | agg cs vs hl _ ih => exact .agg cs vs hl ih
  | tup cs vs hl _ ih => exact .tup cs vs hl ih
  | val v => exact .val v

/-- A list of abstract values, an array of values. -/
structure VRs (Z : Ctx) (cs : List FV) (vs : Array Value) : Prop where
  len : vs.size = cs.length
  get : ∀ i, i < cs.length → VR Z (cs.getD i .und) (vs.getD i undef)

theorem VRs.mono {Z Z' : Ctx} (h : Ctx.le Z Z') {cs : List FV} {vs : Array Value} (r : VRs Z cs vs) : VRs Z' cs vs := ⟨r.len, fun i hi => (r.get i hi).mono h⟩

def FV.cells : FV → List FV
  | .agg cs => cs
  | v => [v]

theorem VRs.nil (Z : Ctx) : VRs Z [] #[] := ⟨rfl, fun i hi => by simp at hi⟩
theorem VRs.one {Z : Ctx} {x : FV} {v : Value} (h : VR Z x v) : VRs Z [x] #[v] := ⟨rfl, fun i hi => by
  have : i = 0 := by simp at hi; omega
  subst this; simpa using h⟩

theorem VR.agg' {Z : Ctx} {cs : List FV} {vs : Array Value} (h : VRs Z cs vs) : VR Z (.agg cs) (.agg vs) := .agg cs vs h.len h.get
theorem VR.tup' {Z : Ctx} {cs : List FV} {vs : Array Value} (h : VRs Z cs vs) : VR Z (.tup cs) (.tuple vs) := .tup cs vs h.len h.get

/-- What stands in memory when a value is stored. 'und' stands for one cell of whatever kind, so it is left out here. -/
theorem VR.cells {Z : Ctx} {x : FV} {v : Value} (h : VR Z x v) (hu : x ≠ .und) (hval : ∀ u, x ≠ .val u) : VRs Z x.cells v.cells := by
  cases h with
  | agg cs vs hl hv => exact ⟨hl, hv⟩
  | und v => exact absurd rfl hu
  | val v => exact absurd rfl (hval v)
  | bool b => exact .one (.bool b)
  | int k n hk => exact .one (.int k n hk)
  | str s hs => exact .one (.str s hs)
  | ptrN => exact .one .ptrN
  | ptr b o => exact .one (.ptr b o)
  | pp cs b o vs hc hv => exact .one (.pp cs b o vs hc hv)
  | sl sz es b o vs cap hz hc hv hcap hb => exact .one (.sl sz es b o vs cap hz hc hv hcap hb)
  | slN sz => exact .one (.slN sz)
  | slN' sz a => exact .one (.slN' sz a)
  | slx sz es b o vs hz hc hv hb => exact .one (.slx sz es b o vs hz hc hv hb)
  | slxN sz a => exact .one (.slxN sz a)
  | nilsl => exact .one .nilsl
  | rsl sz t b off len cap hn hs hl hb => exact .one (.rsl sz t b off len cap hn hs hl hb)
  | rsl0 sz t a hn => exact .one (.rsl0 sz t a hn)
  | rp sz t i j b hn => exact .one (.rp sz t i j b hn)
  | mpN => exact .one .mpN
  | mp r => exact .one (.mp r)
  | rmp t b hn => exact .one (.rmp t b hn)
  | fn f cs vs hl hv => exact .one (.fn f cs vs hl hv)
  | mfn f ps vs hl hv => exact .one (.mfn f ps vs hl hv)
  | nilFn => exact .one .nilFn
  | tup cs vs hl hv => exact .one (.tup cs vs hl hv)

/-- Owned blocks. -/
inductive FObj where
  | cells (cs : List FV)
  | row (sz k : Nat) (es : List (List FV))
  | map (kvs : List (FV × FV))
  | raw (x : Obj) (kc : Nat → Option Value)

def NoFr (fr : Nat × Nat) (n : Nat) : Prop := ∀ i, i < n → ¬ (fr.1 ≤ i ∧ i < fr.2)

/-- The block that an entry owns. -/
def blkOf (Z : Ctx) : Nat × FObj → Option Nat
  | (b, .cells _) => some b
  | (t, .map _) => (Z.nm t).bind id
  | (b, .raw _ _) => some b
  | (t, .row _ _ _) => (Z.nm t).bind id

/-- A row's block: a matter of that block alone. -/
def RowRel (Z : Ctx) (b : Nat) (x : Option Obj) (sz k : Nat) (es : List (List FV)) : Prop :=
  ∃ vs ty fr N, x = some (.cells vs ty fr) ∧ NoFr fr vs.size ∧ vs.size = N * sz ∧ Z.size b = some (N * sz) ∧ 0 < sz ∧
      es.length ≤ N ∧ k ≤ es.length ∧ (∀ e, e ∈ es → e.length = sz) ∧ (∀ i, k * sz ≤ i → Z.cell b i = none) ∧
      (∀ i, i < k * sz → Z.cell b i = some (vs.getD i undef)) ∧
      (∀ i j, i < es.length → j < sz → VR Z ((es.getD i []).getD j .und) (vs.getD (i * sz + j) undef))

/-- What an owned entry is in memory (x: its block): a matter of that block alone. -/
def ObjRel (Z : Ctx) (x : Option Obj) : Nat × FObj → Prop
  | (b, .cells cs) => ∃ vs ty fr, x = some (.cells vs ty fr) ∧ NoFr fr vs.size ∧ (∀ i, Z.cell b i = none) ∧ VRs Z cs vs
  | (t, .row sz k es) => (Z.nm t = some none ∧ es = [] ∧ k = 0 ∧ 0 < sz) ∨ ∃ b, Z.nm t = some (some b) ∧ RowRel Z b x sz k es
  | (t, .map kvs) => ∃ b, Z.nm t = some (some b) ∧ ∃ es clock, x = some (.map es clock) ∧ (∀ i, Z.cell b i = none) ∧ es.size = kvs.length ∧
      (∀ i, i < kvs.length → VR Z (kvs.getD i (.und, .und)).1 (es.getD i default).key ∧ VR Z (kvs.getD i (.und, .und)).2 (es.getD i default).val)
  | (b, .raw y kc) => x = some y ∧ ∀ i, Z.cell b i = kc i

def ObjAt (Z : Ctx) (w : World) (p : Nat × FObj) : Prop := ObjRel Z ((blkOf Z p).bind fun b => w.heap[b]?) p

abbrev Heap := List (Nat × FObj)

structure HeapOK (Z : Ctx) (w : World) (L : Heap) : Prop where
  nodup : (L.filterMap (blkOf Z)).Nodup
  obj : ∀ p, p ∈ L → ObjAt Z w p
  notOld : ∀ p b, p ∈ L → blkOf Z p = some b → Z.old b = none
  cell : ∀ b i v, Z.cell b i = some v → w.cell? ⟨b, i, none⟩ = some v
  size : ∀ b n, Z.size b = some n → ∃ vs ty fr, w.heap[b]? = some (.cells vs ty fr) ∧ vs.size = n
  nm : ∀ t b, Z.nm t = some (some b) → True
  fresh : ∃ m, ∀ t, m ≤ t → Z.nm t = none
  old : ∀ b o, Z.old b = some o → w.heap[b]? = some o
  os : w.os = Z.os
  out : w.output = Z.out
  tape : w.tape = Z.tape

theorem HeapOK.perm {Z : Ctx} {w : World} {L L' : Heap} (h : HeapOK Z w L) (p : L.Perm L') : HeapOK Z w L' :=
  ⟨(p.filterMap _).nodup_iff.1 h.nodup, fun q hm => h.obj q (p.mem_iff.2 hm), fun q b hm => h.notOld q b (p.mem_iff.2 hm), h.cell, h.size, h.nm, h.fresh, h.old, h.os, h.out, h.tape⟩

theorem HeapOK.sub {Z : Ctx} {w : World} {L L' : Heap} (h : HeapOK Z w L) (p : L'.Sublist L) : HeapOK Z w L' :=
  ⟨(p.filterMap _).nodup h.nodup, fun q hm => h.obj q (p.mem hm), fun q b hm => h.notOld q b (p.mem hm), h.cell, h.size, h.nm, h.fresh, h.old, h.os, h.out, h.tape⟩

theorem HeapOK.drop {Z : Ctx} {w : World} {a : Nat × FObj} {L : Heap} (h : HeapOK Z w (a :: L)) : HeapOK Z w L := h.sub (List.sublist_cons_self a L)

theorem heap_lt {w : World} {b : Nat} {x : Obj} (h : w.heap[b]? = some x) : b < w.heap.size := (Array.getElem?_eq_some_iff.1 h).1

/-- An entry's block is there. -/
theorem HeapOK.lt {Z : Ctx} {w : World} {L : Heap} (h : HeapOK Z w L) {p : Nat × FObj} {b : Nat} (hm : p ∈ L) (hb : blkOf Z p = some b) : b < w.heap.size := by
  have ho := h.obj p hm
  unfold ObjAt at ho
  rw [hb] at ho
  obtain ⟨t, o⟩ := p
  cases o with
  | cells cs => obtain ⟨vs, ty, fr, hx, _⟩ := ho; exact heap_lt hx
  | map kvs =>
    obtain ⟨c, hn, es, clock, hx, _⟩ := ho
    exact heap_lt hx
  | raw y kc => exact heap_lt ho.1
  | row sz k es =>
    rcases ho with ⟨hn, _⟩ | ⟨c, hn, vs, ty, fr, N, hx, _⟩
    · simp [blkOf, hn] at hb
    · exact heap_lt hx

/-- Under more knowledge that says nothing new of this block. -/
theorem RowRel.mono {Z Z' : Ctx} (h : Ctx.le Z Z') {b : Nat} (hb : ∀ i, Z'.cell b i = Z.cell b i) {x : Option Obj} {sz k : Nat} {es : List (List FV)} (r : RowRel Z b x sz k es) : RowRel Z' b x sz k es := by
  obtain ⟨vs, ty, fr, N, h1, h2, h3, h4, h5, h6, h7, h8, h9, h10, h11⟩ := r
  exact ⟨vs, ty, fr, N, h1, h2, h3, h.size _ _ h4, h5, h6, h7, h8, fun i hi => by rw [hb]; exact h9 i hi, fun i hi => by rw [hb]; exact h10 i hi, fun i j hi hj => (h11 i j hi hj).mono h⟩

/-- The name of an entry is known. -/
theorem blkOf_mono {Z Z' : Ctx} (h : Ctx.le Z Z') {p : Nat × FObj} {x : Option Obj} (r : ObjRel Z x p) : blkOf Z' p = blkOf Z p := by
  obtain ⟨t, o⟩ := p
  cases o with
  | cells cs => rfl
  | map kvs =>
    obtain ⟨c, hn, _⟩ := r
    simp [blkOf, hn, h.nm _ _ hn]
  | raw y kc => rfl
  | row sz k es =>
    rcases r with ⟨hn, _⟩ | ⟨c, hn, _⟩
    · simp [blkOf, hn, h.nm _ _ hn]
    · simp [blkOf, hn, h.nm _ _ hn]

theorem ObjRel.mono {Z Z' : Ctx} (h : Ctx.le Z Z') {p : Nat × FObj} (hb : ∀ b i, blkOf Z p = some b → Z'.cell b i = Z.cell b i) {x : Option Obj} (r : ObjRel Z x p) : ObjRel Z' x p := by
  obtain ⟨t, o⟩ := p
  cases o with
  | cells cs =>
    obtain ⟨vs, ty, fr, h1, h2, h3, h4⟩ := r
    exact ⟨vs, ty, fr, h1, h2, fun i => by rw [hb t i rfl]; exact h3 i, h4.mono h⟩
  | row sz k es =>
    rcases r with ⟨hn, hr⟩ | ⟨c, hn, hr⟩
    · exact Or.inl ⟨h.nm _ _ hn, hr⟩
    · exact Or.inr ⟨c, h.nm _ _ hn, hr.mono h (fun i => hb c i (by simp [blkOf, hn]))⟩
  | map kvs =>
    obtain ⟨c, hn, es, clock, h1, h2, h3, h4⟩ := r
    exact ⟨c, h.nm _ _ hn, es, clock, h1, fun i => by rw [hb c i (by simp [blkOf, hn])]; exact h2 i, h3, fun i hi => ⟨(h4 i hi).1.mono h, (h4 i hi).2.mono h⟩⟩
  | raw y kc => exact ⟨r.1, fun i => by rw [hb t i rfl]; exact r.2 i⟩

def World.setBlk (w : World) (b : Nat) (x : Obj) : World := { w with heap := w.heap.setIfInBounds b x }

theorem setBlk_same {w : World} {b : Nat} {x : Obj} (h : b < w.heap.size) : (World.setBlk w b x).heap[b]? = some x := by
  simp [World.setBlk, h]

theorem setBlk_ne {w : World} {b c : Nat} {x : Obj} (h : c ≠ b) : (World.setBlk w b x).heap[c]? = w.heap[c]? := by
  simp only [World.setBlk]
  rw [Array.getElem?_setIfInBounds_ne (by omega)]

theorem setBlk_size {w : World} {b : Nat} {x : Obj} : (World.setBlk w b x).heap.size = w.heap.size := by simp [World.setBlk]

theorem cell_of {w : World} {b i : Nat} {vs : Array Value} {ty : TypeId} {fr : Nat × Nat} (h : w.heap[b]? = some (.cells vs ty fr)) : w.cell? ⟨b, i, none⟩ = vs[i]? := by
  simp [World.cell?, h]

theorem cell_congr {w w' : World} {b : Nat} (h : w'.heap[b]? = w.heap[b]?) (i : Nat) : w'.cell? ⟨b, i, none⟩ = w.cell? ⟨b, i, none⟩ := by
  simp [World.cell?, h]

/-- An owned block is turned. -/
theorem HeapOK.modify {Z : Ctx} {w : World} {b : Nat} {p p' : Nat × FObj} {L : Heap} {x : Obj} (h : HeapOK Z w (p :: L)) (hb : blkOf Z p = some b) (hb' : blkOf Z p' = some b)
    (hc : ∀ i v, Z.cell b i = some v → ∃ vs ty fr, x = .cells vs ty fr ∧ vs[i]? = some v)
    (hs : ∀ n, Z.size b = some n → ∃ vs ty fr, x = .cells vs ty fr ∧ vs.size = n)
    (ho : ObjRel Z (some x) p') : HeapOK Z (World.setBlk w b x) (p' :: L) := by
  have hlt : b < w.heap.size := h.lt (List.mem_cons_self) hb
  have hnd := h.nodup
  rw [List.filterMap_cons_some hb, List.nodup_cons] at hnd
  have hne : ∀ q c, q ∈ L → blkOf Z q = some c → c ≠ b := fun q c hm hq e => hnd.1 (by subst e; exact List.mem_filterMap.2 ⟨q, hm, hq⟩)
  refine ⟨?_, ?_, ?_, ?_, ?_, ?_, h.fresh, ?_, h.os, h.out, h.tape⟩
  · rw [List.filterMap_cons_some hb', List.nodup_cons]; exact hnd
  · intro q hm
    rcases List.mem_cons.1 hm with e | hm
    · subst e
      unfold ObjAt
      rw [hb']
      show ObjRel Z (World.setBlk w b x).heap[b]? _
      rw [setBlk_same hlt]; exact ho
    · have hq := h.obj q (List.mem_cons_of_mem _ hm)
      unfold ObjAt at hq ⊢
      cases hbq : blkOf Z q with
      | none => rw [hbq] at hq; exact hq
      | some c =>
        rw [hbq] at hq
        show ObjRel Z (World.setBlk w b x).heap[c]? q
        rw [setBlk_ne (hne q c hm hbq)]; exact hq
  · intro q c hm hq
    rcases List.mem_cons.1 hm with e | hm
    · subst e
      rw [hb'] at hq; cases hq
      exact h.notOld p b (List.mem_cons_self) hb
    · exact h.notOld q c (List.mem_cons_of_mem _ hm) hq
  · intro c i v hv
    by_cases e : c = b
    · subst e
      obtain ⟨vs, ty, fr, rfl, hvs⟩ := hc i v hv
      rw [cell_of (setBlk_same hlt)]; exact hvs
    · rw [cell_congr (setBlk_ne e)]; exact h.cell c i v hv
  · intro c n hn
    by_cases e : c = b
    · subst e
      obtain ⟨vs, ty, fr, rfl, hvs⟩ := hs n hn
      exact ⟨vs, ty, fr, setBlk_same hlt, hvs⟩
    · rw [setBlk_ne e]; exact h.size c n hn
  · intro t c hn
    trivial
  · intro c q hp
    by_cases e : c = b
    · subst e
      have := h.notOld p c (List.mem_cons_self) hb
      rw [this] at hp; cases hp
    · rw [setBlk_ne e]; exact h.old c q hp

theorem alloc_get {w : World} {x : Obj} {b : Nat} (h : b ≠ w.heap.size) : (w.alloc x).heap[b]? = w.heap[b]? := by
  show (w.heap.push x)[b]? = _
  rw [Array.getElem?_push, if_neg h]

theorem alloc_new {w : World} {x : Obj} : (w.alloc x).heap[w.heap.size]? = some x := by
  show (w.heap.push x)[w.heap.size]? = _
  simp

theorem HeapOK.cell_new {Z : Ctx} {w : World} {L : Heap} (h : HeapOK Z w L) (i : Nat) : Z.cell w.heap.size i = none := by
  cases hc : Z.cell w.heap.size i with
  | none => rfl
  | some v =>
    have := World.block_lt_of_cell? w ⟨w.heap.size, i, none⟩ (h.cell _ _ _ hc)
    simp at this

theorem HeapOK.size_new {Z : Ctx} {w : World} {L : Heap} (h : HeapOK Z w L) : Z.size w.heap.size = none := by
  cases hc : Z.size w.heap.size with
  | none => rfl
  | some v =>
    obtain ⟨vs, ty, fr, hb, _⟩ := h.size _ _ hc
    have := heap_lt hb
    omega

theorem HeapOK.old_new {Z : Ctx} {w : World} {L : Heap} (h : HeapOK Z w L) : Z.old w.heap.size = none := by
  cases hc : Z.old w.heap.size with
  | none => rfl
  | some v =>
    have := heap_lt (h.old _ _ hc)
    omega

/-- A block more in the world, of which nothing is said. -/
theorem HeapOK.allocGarbage {Z : Ctx} {w : World} {L : Heap} (h : HeapOK Z w L) (x : Obj) : HeapOK Z (w.alloc x) L := by
  have ne : ∀ {b : Nat}, b < w.heap.size → (w.alloc x).heap[b]? = w.heap[b]? := fun hb => alloc_get (by omega)
  refine ⟨h.nodup, fun p hm => ?_, h.notOld, fun b i v hv => ?_, fun b n hn => ?_, fun t b hb => ?_, h.fresh, fun b o ho => ?_, h.os, h.out, h.tape⟩
  · have hq := h.obj p hm
    unfold ObjAt at hq ⊢
    cases hbq : blkOf Z p with
    | none => rw [hbq] at hq; exact hq
    | some c =>
      rw [hbq] at hq
      show ObjRel Z (w.alloc x).heap[c]? p
      rw [ne (h.lt hm hbq)]; exact hq
  · have := h.cell b i v hv
    rw [cell_congr (ne (World.block_lt_of_cell? w ⟨b, i, none⟩ this))]; exact this
  · obtain ⟨vs, ty, fr, hb, hs⟩ := h.size b n hn
    exact ⟨vs, ty, fr, by rw [ne (heap_lt hb)]; exact hb, hs⟩
  · trivial
  · have := h.old b o ho
    rw [ne (heap_lt this)]; exact this

theorem HeapOK.drew {Z : Ctx} {w : World} {L : Heap} (h : HeapOK Z w L) : HeapOK Z { w with drawn := w.drawn + 1 } L :=
  ⟨h.nodup, h.obj, h.notOld, h.cell, h.size, h.nm, h.fresh, h.old, h.os, h.out, h.tape⟩

/-- A new owned block. -/
theorem HeapOK.alloc {Z : Ctx} {w : World} {L : Heap} (h : HeapOK Z w L) {x : Obj} {p : Nat × FObj} (hb : blkOf Z p = some w.heap.size) (ho : ObjRel Z (some x) p) :
    HeapOK Z (w.alloc x) (p :: L) := by
  have g := h.allocGarbage x
  refine ⟨?_, fun q hm => ?_, fun q c hm hq => ?_, g.cell, g.size, g.nm, g.fresh, g.old, g.os, g.out, g.tape⟩
  · rw [List.filterMap_cons_some hb, List.nodup_cons]
    refine ⟨fun hm => ?_, h.nodup⟩
    obtain ⟨q, hm, e⟩ := List.mem_filterMap.1 hm
    have := h.lt hm e
    omega
  · rcases List.mem_cons.1 hm with e | hm
    · subst e
      unfold ObjAt
      rw [hb]
      show ObjRel Z (w.alloc x).heap[w.heap.size]? _
      rw [alloc_new]; exact ho
    · exact g.obj q hm
  · rcases List.mem_cons.1 hm with e | hm
    · subst e
      rw [hb] at hq; cases hq
      exact h.old_new
    · exact h.notOld q c hm hq

/-- Knowledge of one block more: its size, and its first k cells. -/
def Ctx.know (Z : Ctx) (b n k : Nat) (vs : Array Value) : Ctx :=
  { Z with cell := fun c i => if c = b then (if i < k then some (vs.getD i undef) else none) else Z.cell c i, size := fun c => if c = b then some n else Z.size c }

theorem Ctx.know_cell_ne {Z : Ctx} {b n k : Nat} {vs : Array Value} {c : Nat} (h : c ≠ b) (i : Nat) : (Z.know b n k vs).cell c i = Z.cell c i := by simp [Ctx.know, h]
theorem Ctx.know_cell {Z : Ctx} {b n k : Nat} {vs : Array Value} {i : Nat} (h : i < k) : (Z.know b n k vs).cell b i = some (vs.getD i undef) := by simp [Ctx.know, h]
theorem Ctx.know_cell_none {Z : Ctx} {b n k : Nat} {vs : Array Value} {i : Nat} (h : k ≤ i) : (Z.know b n k vs).cell b i = none := by
  simp only [Ctx.know]
  rw [if_pos trivial, if_neg (by omega)]
theorem Ctx.know_size {Z : Ctx} {b n k : Nat} {vs : Array Value} : (Z.know b n k vs).size b = some n := by simp [Ctx.know]
theorem Ctx.know_size_ne {Z : Ctx} {b n k c : Nat} {vs : Array Value} (h : c ≠ b) : (Z.know b n k vs).size c = Z.size c := by simp [Ctx.know, h]

/-- More is known of a block: its size, and that more of its first cells never change. -/
theorem Ctx.le_know' {Z : Ctx} {b n k : Nat} {vs : Array Value} (hc : ∀ i v, Z.cell b i = some v → i < k ∧ v = vs.getD i undef) (hs : ∀ m, Z.size b = some m → m = n) : Ctx.le Z (Z.know b n k vs) := by
  refine ⟨fun c i v hv => ?_, fun c m hm => ?_, fun _ _ h => h, fun _ _ h => h, rfl, rfl, rfl⟩
  · by_cases e : c = b
    · subst e
      obtain ⟨h1, h2⟩ := hc i v hv
      rw [Ctx.know_cell h1, h2]
    · rw [Ctx.know_cell_ne e]; exact hv
  · by_cases e : c = b
    · subst e
      rw [Ctx.know_size, hs m hm]
    · rw [Ctx.know_size_ne e]; exact hm

theorem Ctx.le_know {Z : Ctx} {w : World} {L : Heap} (h : HeapOK Z w L) (n k : Nat) (vs : Array Value) : Ctx.le Z (Z.know w.heap.size n k vs) :=
  Ctx.le_know' (fun i v hv => by rw [h.cell_new] at hv; cases hv) (fun m hm => by rw [h.size_new] at hm; cases hm)

theorem filterMap_congr' {α β : Type} {f g : α → Option β} : ∀ {l : List α}, (∀ x, x ∈ l → f x = g x) → l.filterMap f = l.filterMap g
  | [], _ => rfl
  | a :: l, h => by
    have ih := filterMap_congr' (l := l) (fun x hx => h x (List.mem_cons_of_mem _ hx))
    have h0 := h a List.mem_cons_self
    simp only [List.filterMap_cons, h0, ih]

/-- A new block of cells of which the first k never change again. -/
theorem HeapOK.allocKnown {Z : Ctx} {w : World} {L : Heap} (h : HeapOK Z w L) (vs : Array Value) (ty : TypeId) (k : Nat) (hk : k ≤ vs.size) :
    HeapOK (Z.know w.heap.size vs.size k vs) (w.alloc (.cells vs ty)) L := by
  have g := h.allocGarbage (.cells vs ty)
  have hle := Ctx.le_know h vs.size k vs
  have hbo : ∀ p, p ∈ L → blkOf (Z.know w.heap.size vs.size k vs) p = blkOf Z p := fun p hm => blkOf_mono hle (h.obj p hm)
  refine ⟨?_, fun p hm => ?_, fun p b hm hb => ?_, fun b i v hv => ?_, fun b n hn => ?_, g.nm, g.fresh, g.old, g.os, g.out, g.tape⟩
  · rw [filterMap_congr' hbo]; exact h.nodup
  · unfold ObjAt
    rw [hbo p hm]
    have hq := g.obj p hm
    unfold ObjAt at hq
    exact ObjRel.mono hle (fun b i hb => Ctx.know_cell_ne (by have := h.lt hm hb; omega) i) hq
  · rw [hbo p hm] at hb
    exact h.notOld p b hm hb
  · by_cases e : b = w.heap.size
    · subst e
      by_cases hi : i < k
      · rw [Ctx.know_cell hi] at hv
        rw [cell_of alloc_new]
        have hi' : i < vs.size := by omega
        simp [hi', Array.getD] at hv ⊢
        exact hv
      · rw [Ctx.know_cell_none (by omega)] at hv; cases hv
    · rw [Ctx.know_cell_ne e] at hv
      exact g.cell b i v hv
  · by_cases e : b = w.heap.size
    · subst e
      rw [Ctx.know_size] at hn
      cases hn
      exact ⟨vs, ty, (0, 0), alloc_new, rfl⟩
    · rw [Ctx.know_size_ne e] at hn
      exact g.size b n hn

end Go.Fs

namespace Go.Fs
open Go

/-- What a slot holds: a value, or a pointer to one of the frame's own boxes. -/
inductive TV where
  | v (x : FV)
  | loc (s o : Nat)

structure St where
  n : Nat
  E : Nat → TV
  B : List (Nat × List FV)
  H : Heap

def TVR (Z : Ctx) (β : Nat → Nat) : TV → Value → Prop
  | .v x, u => VR Z x u
  | .loc s o, u => u = .pointer (some ⟨β s, o, none⟩)

theorem TVR.mono {Z Z' : Ctx} (h : Ctx.le Z Z') {β : Nat → Nat} {x : TV} {u : Value} (r : TVR Z β x u) : TVR Z' β x u := by
  cases x with
  | v x => exact VR.mono h r
  | loc s o => exact r

/-- A constant of the text. -/
def ofC1 : Value → FV
  | .bool b => .bool b
  | .int k n => if k.min ≤ n ∧ n ≤ k.max then .int k n else .val (.int k n)
  | .string s => if s.data.toList.length < LB then .str s.data.toList else .val (.string s)
  | .pointer none => .ptr none
  | .slice none 0 0 => .nilsl
  | .map none => .mp none
  | .nilFunc => .nilFn
  | v => .val v

def ofC : Value → FV
  | .agg cs => .agg (cs.toList.map ofC1)
  | v => ofC1 v

theorem VR.ofC1 (Z : Ctx) (c : Value) : VR Z (ofC1 c) c := by
  unfold Fs.ofC1
  split
  · exact .bool _
  · rename_i k n
    by_cases h : k.min ≤ n ∧ n ≤ k.max
    · rw [if_pos h]; exact .int _ _ h
    · rw [if_neg h]; exact .val _
  · rename_i s
    by_cases h : s.data.toList.length < LB
    · rw [if_pos h]; exact .str _ h
    · rw [if_neg h]; exact .val _
  · exact .ptrN
  · exact .nilsl
  · exact .mpN
  · exact .nilFn
  · exact .val _

theorem VRs.ofC1 (Z : Ctx) (cs : Array Value) : VRs Z (cs.toList.map Fs.ofC1) cs := ⟨by simp, fun i hi => by
  simp at hi
  simp [hi]
  exact VR.ofC1 Z _⟩

theorem VR.ofC (Z : Ctx) (c : Value) : VR Z (ofC c) c := by
  unfold Fs.ofC
  split
  · exact VR.agg' (VRs.ofC1 Z _)
  · exact VR.ofC1 Z _

def ev (E : Nat → TV) : Operand → TV
  | .tmp t => E t
  | .const c => .v (ofC c)
  | .global g => .v (.ptr (some (g, 0)))
  | .func f => .v (.fn f [])

def boxes (β : Nat → Nat) (B : List (Nat × List FV)) : Heap := B.map fun p => (β p.1, FObj.cells p.2)

structure Rel (Z : Ctx) (w : World) (F : Heap) (β : Nat → Nat) (S : St) (a : Act) : Prop where
  defers : a.defers = []
  size : a.tmps.size = S.n
  heap : HeapOK Z w (S.H ++ (boxes β S.B ++ F))
  env : ∀ i, TVR Z β (S.E i) (a.tmps.getD i undef)

theorem Rel.ev {Z : Ctx} {w : World} {F : Heap} {β : Nat → Nat} {S : St} {a : Act} (r : Rel Z w F β S a) (x : Operand) : TVR Z β (Fs.ev S.E x) (a.eval x) := by
  cases x with
  | tmp t => exact r.env t
  | const c => exact VR.ofC Z c
  | global g => exact VR.ptr g 0
  | func f => exact VR.fn f [] #[] rfl (fun i hi => by simp at hi)

def upd (E : Nat → TV) (d : Nat) (x : TV) : Nat → TV := fun i => bif Nat.beq i d then x else E i

theorem upd_same (E : Nat → TV) (d : Nat) (x : TV) : upd E d x d = x := by
  simp [upd]
theorem upd_ne (E : Nat → TV) {d i : Nat} (x : TV) (h : i ≠ d) : upd E d x i = E i := by
  have : Nat.beq i d = false := by
    cases hb : Nat.beq i d with
    | false => rfl
    | true => exact absurd (Nat.eq_of_beq_eq_true hb) h
  simp [upd, this]

/-- A state in which the slot is written. -/
def St.put (S : St) (d : Option Nat) (x : TV) : St :=
  match d with
  | none => S
  | some d => { S with E := upd S.E d x }

theorem St.put_H (S : St) (d : Option Nat) (x : TV) : (S.put d x).H = S.H := by cases d <;> rfl
theorem St.put_B (S : St) (d : Option Nat) (x : TV) : (S.put d x).B = S.B := by cases d <;> rfl
theorem St.put_n (S : St) (d : Option Nat) (x : TV) : (S.put d x).n = S.n := by cases d <;> rfl

def dstOK (n : Nat) : Option Nat → Bool
  | none => true
  | some d => Nat.blt d n

theorem Rel.put {Z : Ctx} {w : World} {F : Heap} {β : Nat → Nat} {S : St} {a : Act} (r : Rel Z w F β S a) {d : Option Nat} {x : TV} {u : Value}
    (hd : dstOK S.n d = true) (h : TVR Z β x u) : Rel Z w F β (S.put d x) (a.put d u) := by
  cases d with
  | none => exact r
  | some d =>
    have hd' : d < a.tmps.size := by rw [r.size]; simpa [dstOK, Nat.blt_eq] using hd
    refine ⟨r.defers, ?_, r.heap, fun i => ?_⟩
    · show (a.tmps.setIfInBounds d u).size = S.n
      simp [r.size]
    · show TVR Z β (upd S.E d x i) ((a.tmps.setIfInBounds d u).getD i undef)
      by_cases hi : i = d
      · subst hi
        rw [upd_same]
        simpa [Array.getD, hd'] using h
      · rw [upd_ne _ _ hi]
        have e := r.env i
        have : (a.tmps.setIfInBounds d u).getD i undef = a.tmps.getD i undef := by
          simp only [Array.getD_eq_getD_getElem?]
          rw [Array.getElem?_setIfInBounds_ne (by omega)]
        rw [this]
        exact e

theorem Rel.mono {Z Z' : Ctx} {w w' : World} {F : Heap} {β : Nat → Nat} {S : St} {a : Act} (r : Rel Z w F β S a) (hz : Ctx.le Z Z')
    {H' : Heap} (hh : HeapOK Z' w' (H' ++ (boxes β S.B ++ F))) : Rel Z' w' F β { S with H := H' } a :=
  ⟨r.defers, r.size, hh, fun i => (r.env i).mono hz⟩

/-- The operation neither reads nor writes owned memory, and gives this. -/
def PR (P : Program) (o : Oper) (ρ : Operand → TV) (x : TV) : Prop :=
  ∀ (Z : Ctx) (w : World) (L : Heap) (β : Nat → Nat) (ρ' : Operand → Value), HeapOK Z w L → (∀ y, y ∈ o.op.operands → TVR Z β (ρ y) (ρ' y)) →
    ∃ v w' Z', (execOp ρ' o).run P w = .ok (.value v) w' ∧ Ctx.le Z Z' ∧ HeapOK Z' w' L ∧ TVR Z' β x v ∧ Z'.nm = Z.nm

/-- The operation turns owned memory H into something of Post. -/
def HR (P : Program) (o : Oper) (ρ : Operand → TV) (H : Heap) (Post : FV → Heap → Prop) : Prop :=
  ∀ (Z : Ctx) (w : World) (F : Heap) (β : Nat → Nat) (ρ' : Operand → Value), HeapOK Z w (H ++ F) → (∀ y, y ∈ o.op.operands → TVR Z β (ρ y) (ρ' y)) →
    ∃ x H' v w' Z', ((execOp ρ' o).run P w = .ok (.value v) w' ∨ ((execOp ρ' o).run P w = .ok .skip w' ∧ v = undef)) ∧ Ctx.le Z Z' ∧ HeapOK Z' w' (H' ++ F) ∧ VR Z' x v ∧ Post x H'

def Ent (P : Program) (f : FuncId) : Prop := ∃ fn, P.funcs[f]? = some fn ∧ (fn.name == "runtime.NumGoroutine") = false ∧ fn.body.isNone = false

/-- The contract of a function: called where these blocks are owned it returns, and they have become others. -/
def FCall (P : Program) (f : FuncId) (args : List FV) (H : Heap) (Q : FV → Heap → Prop) : Prop :=
  Ent P f ∧ ∀ (Z : Ctx) (w : World) (F : Heap) (vs : Array Value), VRs Z args vs → HeapOK Z w (H ++ F) →
    Calls P f vs w fun e w' => ∃ x H' v Z', e = .returned v ∧ Ctx.le Z Z' ∧ HeapOK Z' w' (H' ++ F) ∧ VR Z' x v ∧ Q x H'

/-- A function that only computes. -/
def Ret (P : Program) (f : FuncId) (args : List FV) (x : FV) : Prop := FCall P f args [] fun y H' => y = x ∧ H' = []

theorem FCall.mono {P : Program} {f : FuncId} {args : List FV} {H : Heap} {Q Q' : FV → Heap → Prop} (h : FCall P f args H Q) (hq : ∀ x H', Q x H' → Q' x H') : FCall P f args H Q' :=
  ⟨h.1, fun Z w F vs ha hh => (h.2 Z w F vs ha hh).mono fun _ _ ⟨x, H', v, Z', he, hz, hh', hv, q⟩ => ⟨x, H', v, Z', he, hz, hh', hv, hq x H' q⟩⟩

theorem FCall.frame {P : Program} {f : FuncId} {args : List FV} {H : Heap} {Q : FV → Heap → Prop} (R : Heap) (h : FCall P f args H Q) :
    FCall P f args (H ++ R) fun x H' => ∃ H0, H' = H0 ++ R ∧ Q x H0 :=
  ⟨h.1, fun Z w F vs ha hh => (h.2 Z w (R ++ F) vs ha (by simpa using hh)).mono fun _ _ ⟨x, H', v, Z', he, hz, hh', hv, q⟩ =>
    ⟨x, H' ++ R, v, Z', he, hz, by simpa using hh', hv, H', rfl, q⟩⟩

theorem FCall.perm {P : Program} {f : FuncId} {args : List FV} {H H1 : Heap} {Q : FV → Heap → Prop} (p : H.Perm H1) (h : FCall P f args H1 Q) : FCall P f args H Q :=
  ⟨h.1, fun Z w F vs ha hh => h.2 Z w F vs ha (hh.perm (p.append_right F))⟩

/-- What a call names. -/
structure CallOf (o : Oper) (ρ : Operand → TV) (f : FuncId) (args : List FV) : Prop where
  ex : ∃ (c : Call) (fo : Operand) (caps : List FV) (as : List FV), o.op = .call c ∧ c.callee = .value fo ∧ ρ fo = .v (.fn f caps) ∧
    c.args.toList.map ρ = as.map TV.v ∧ args = as ++ caps

end Go.Fs

namespace Go.Fs
open Go

def tyAgg (P : Program) (t : TypeId) : Bool :=
  match P.underlying t with
  | some (.struct _) => true
  | some (.array _ _) => true
  | _ => false

def tyHas (P : Program) (t : TypeId) : Bool := (P.underlying t).isSome

def tySize (P : Program) (t : TypeId) : Option Nat := (P.info? t).map (·.size)

theorem run_isAgg {P : Program} {t : TypeId} (w : World) (h : tyHas P t = true) : (isAgg t).run P w = .ok (tyAgg P t) w := by
  unfold tyHas at h
  cases hu : P.underlying t with
  | none => simp [hu] at h
  | some d =>
    unfold isAgg
    rw [Sem.run_bind, run_underlying hu w]
    unfold tyAgg
    rw [hu]
    cases d <;> rfl

theorem run_sizeOf {P : Program} {t : TypeId} {n : Nat} (w : World) (h : tySize P t = some n) : (sizeOf t).run P w = .ok n w := by
  unfold tySize at h
  cases hi : P.info? t with
  | none => simp [hi] at h
  | some i =>
    have : i.size = n := by simpa [hi] using h
    simp [sizeOf, typeInfo, hi, this]

theorem addr_add (b o i : Nat) : (⟨b, o, none⟩ : Addr).add i = ⟨b, o + i, none⟩ := by
  unfold Addr.add; split <;> simp_all

/-- What a load of a variable of n cells gives, out of the cells from a place on. -/
def ldv (agg : Bool) (n : Nat) (cs : List FV) (off : Nat) : Option FV :=
  match agg with
  | true => match Nat.ble (off + n) cs.length with
    | true => some (.agg ((cs.drop off).take n))
    | false => none
  | false => cs[off]?

theorem load_ok {P : Program} {t : TypeId} {n : Nat} {Z : Ctx} {w : World} {b o off : Nat} {cs : List FV} {x : FV} (f : Nat → Value) (hh : tyHas P t = true) (hn : tySize P t = some n)
    (hc : ∀ i, i < cs.length → w.cell? ⟨b, o + i, none⟩ = some (f i) ∧ VR Z (cs.getD i .und) (f i)) (hx : ldv (tyAgg P t) n cs off = some x) :
    ∃ v, (loadVar t ⟨b, o + off, none⟩).run P w = .ok v w ∧ VR Z x v := by
  unfold ldv at hx
  cases ha : tyAgg P t with
  | true =>
    rw [ha] at hx
    simp only at hx
    cases hb : Nat.ble (off + n) cs.length with
    | false => simp [hb] at hx
    | true =>
      have hle : off + n ≤ cs.length := Nat.le_of_ble_eq_true hb
      simp only [hb, Option.some.injEq] at hx
      subst hx
      have hl := run_loadCells (P := P) w ⟨b, o + off, none⟩ n (fun j => f (off + j)) (fun j hj => by
        rw [addr_add, Nat.add_assoc]; exact (hc (off + j) (by omega)).1)
      refine ⟨.agg ((List.range n).map fun j => f (off + j)).toArray, ?_, VR.agg' ⟨by simp; omega, fun i hi => ?_⟩⟩
      · simp [loadVar, Sem.run_bind, run_isAgg w hh, ha, run_sizeOf w hn, hl]
      · have hi' : i < n := by simp at hi; omega
        have := (hc (off + i) (by omega)).2
        have e1 : (((cs.drop off).take n).getD i .und) = cs.getD (off + i) .und := by
          simp [List.getD, hi', List.getElem?_drop]
        have e2 : (((List.range n).map fun j => f (off + j)).toArray.getD i undef) = f (off + i) := by
          simp [Array.getD, hi']
        rw [e1, e2]; exact this
  | false =>
    rw [ha] at hx
    simp only at hx
    have hlt : off < cs.length := (List.getElem?_eq_some_iff.1 hx).1
    have e : cs.getD off .und = x := by simp [List.getD, hx]
    refine ⟨f off, ?_, e ▸ (hc off hlt).2⟩
    simp [loadVar, Sem.run_bind, run_isAgg w hh, ha, (hc off hlt).1]

/-- Cells written from a place on. -/
def wr (vs : Array Value) (o : Nat) : List Value → Array Value
  | [] => vs
  | v :: r => wr (vs.setIfInBounds o v) (o + 1) r

theorem wr_size : ∀ (l : List Value) (vs : Array Value) (o : Nat), (wr vs o l).size = vs.size
  | [], _, _ => rfl
  | v :: r, vs, o => by simp [wr, wr_size r]

theorem wr_get : ∀ (l : List Value) (vs : Array Value) (o i : Nat), o + l.length ≤ vs.size → (wr vs o l).getD i undef = if o ≤ i ∧ i < o + l.length then l.getD (i - o) undef else vs.getD i undef
  | [], vs, o, i, _ => by simp [wr]; intro h1 h2; omega
  | v :: r, vs, o, i, h => by
    simp only [List.length_cons] at h
    rw [wr, wr_get r _ _ _ (by simp; omega)]
    by_cases h1 : i = o
    · subst h1
      have hlt : i < vs.size := by omega
      rw [if_neg (by omega), if_pos (by simp)]
      simp [Array.getD, hlt]
    · by_cases h2 : o + 1 ≤ i ∧ i < o + 1 + r.length
      · rw [if_pos h2, if_pos (by simp; omega)]
        have : i - o = (i - (o + 1)) + 1 := by omega
        rw [this]; simp
      · rw [if_neg h2, if_neg (by simp; omega)]
        simp only [Array.getD_eq_getD_getElem?]
        rw [Array.getElem?_setIfInBounds_ne (by omega)]

theorem oneCell_of_VR {Z : Ctx} {x : FV} {v : Value} (h : VR Z x v) (hc : match x with | .agg _ | .tup _ | .und | .val _ => false | _ => true) : v.oneCell' = true := by
  cases h <;> first | rfl | simp at hc

theorem setCell_blk {w : World} {b o : Nat} {vs : Array Value} {ty : TypeId} {fr : Nat × Nat} {v : Value} (h : w.heap[b]? = some (.cells vs ty fr)) :
    w.setCell ⟨b, o, none⟩ v = World.setBlk w b (.cells (vs.setIfInBounds o v) ty fr) := by
  unfold World.setCell World.setBlk
  congr 1
  apply Array.ext_getElem?
  intro i
  rw [Array.getElem?_modify]
  by_cases e : b = i
  · subst e
    have hb := (Array.getElem?_eq_some_iff.1 h).2
    simp [heap_lt h, hb]
  · rw [if_neg e, Array.getElem?_setIfInBounds_ne e]

theorem setBlk_setBlk (w : World) (b : Nat) (x y : Obj) : World.setBlk (World.setBlk w b x) b y = World.setBlk w b y := by
  simp [World.setBlk]

theorem setBlk_self {w : World} {b : Nat} {x : Obj} (h : w.heap[b]? = some x) : World.setBlk w b x = w := by
  unfold World.setBlk
  cases w with
  | mk heap tape drawn os output =>
    congr 1
    apply Array.ext_getElem?
    intro i
    by_cases e : b = i
    · subst e
      simp at h
      rw [h]
      simp [(Array.getElem?_eq_some_iff.1 h).1]
    · rw [Array.getElem?_setIfInBounds_ne e]

theorem storeCells_ok {P : Program} (b o : Nat) (ty : TypeId) (fr : Nat × Nat) : ∀ (l : List Value) (i : Nat) (vs : Array Value) (w : World), w.heap[b]? = some (.cells vs ty fr) → o + i + l.length ≤ vs.size →
    NoFr fr vs.size → (∀ v, v ∈ l → v.oneCell' = true) → (storeCells ⟨b, o, none⟩ l i).run P w = .ok () (World.setBlk w b (.cells (wr vs (o + i) l) ty fr))
  | [], i, vs, w, h, _, _, _ => by
    simp only [storeCells, wr]
    rw [setBlk_self h]; rfl
  | v :: r, i, vs, w, h, hl, hf, h1 => by
    simp only [List.length_cons] at hl
    have hi : o + i < vs.size := by omega
    have hcell : w.cell? ⟨b, o + i, none⟩ = some vs[o + i] := by simp [World.cell?, h, hi]
    have hfro : w.frozen? ⟨b, o + i, none⟩ = false := by
      have := hf (o + i) hi
      simp only [World.frozen?, h]
      simp; intro h1; omega
    have hst : (store ((⟨b, o, none⟩ : Addr).add i) v).run P w = .ok () (World.setBlk w b (.cells (vs.setIfInBounds (o + i) v) ty fr)) := by
      rw [addr_add, run_store P w _ v _ (h1 v (by simp)), hcell]
      simp [hfro, setCell_blk h]
    have ih := storeCells_ok (P := P) b o ty fr r (i + 1) (vs.setIfInBounds (o + i) v) (World.setBlk w b (.cells (vs.setIfInBounds (o + i) v) ty fr)) (setBlk_same (heap_lt h)) (by simp; omega) (by simpa using hf) (fun x hx => h1 x (by simp [hx]))
    simp only [storeCells, Sem.run_bind, hst, Result.andThen_ok, ih, setBlk_setBlk, wr]
    rfl

/-- Values that may lie in cells: no aggregate within, nothing unknown. -/
def FV.one : FV → Bool
  | .agg _ | .tup _ | .und | .val _ => false
  | _ => true

def FV.plain : FV → Bool
  | .agg cs => cs.all FV.one
  | x => x.one

theorem VR.plainCells {Z : Ctx} {x : FV} {v : Value} (h : VR Z x v) (hp : x.plain = true) : VRs Z x.cells v.cells ∧ ∀ u, u ∈ v.cells.toList → u.oneCell' = true := by
  have one : ∀ {y : FV} {u : Value}, VR Z y u → y.one = true → u.oneCell' = true := fun {y u} hy hu => by
    cases hy <;> first | rfl | simp [FV.one] at hu
  have hr : VRs Z x.cells v.cells := h.cells (fun e => by subst e; simp [FV.plain, FV.one] at hp) (fun u e => by subst e; simp [FV.plain, FV.one] at hp)
  refine ⟨hr, fun u hu => ?_⟩
  obtain ⟨i, hi, e⟩ := List.getElem_of_mem hu
  have hi' : i < v.cells.size := by simpa using hi
  have hi'' : i < x.cells.length := by rw [← hr.len]; exact hi'
  have hg := hr.get i hi''
  have e1 : v.cells.getD i undef = u := by simp [Array.getD, hi']; simpa using e
  rw [e1] at hg
  refine one hg ?_
  have e2 : x.cells.getD i .und = x.cells[i] := by simp [List.getD, hi'']
  rw [e2]
  cases x with
  | agg cs =>
    simp only [FV.plain, List.all_eq_true] at hp
    exact hp _ (List.getElem_mem _)
  | _ =>
    simp only [FV.cells, List.length_singleton] at hi'' ⊢
    have : i = 0 := by omega
    subst this
    simpa [FV.plain] using hp

/-- Cells written from a place on, among abstract ones. -/
def wrF (cs : List FV) (o : Nat) (l : List FV) : List FV := cs.take o ++ l ++ cs.drop (o + l.length)

theorem wrF_length {cs : List FV} {o : Nat} {l : List FV} (h : o + l.length ≤ cs.length) : (wrF cs o l).length = cs.length := by
  simp [wrF]; omega

theorem wrF_get {cs : List FV} {o : Nat} {l : List FV} (h : o + l.length ≤ cs.length) (i : Nat) :
    (wrF cs o l).getD i .und = if o ≤ i ∧ i < o + l.length then l.getD (i - o) .und else cs.getD i .und := by
  unfold wrF
  simp only [List.getD]
  by_cases h1 : i < o
  · rw [if_neg (by omega), List.append_assoc, List.getElem?_append_left (by simp; omega)]
    simp [h1]
  · by_cases h2 : i < o + l.length
    · rw [if_pos (by omega), List.getElem?_append_left (by simp; omega), List.getElem?_append_right (by simp; omega)]
      simp [show min o cs.length = o by omega]
    · rw [if_neg (by omega), List.getElem?_append_right (by simp; omega)]
      simp only [List.length_append, List.length_take, List.getElem?_drop]
      congr 2
      omega

theorem VRs.write {Z : Ctx} {cs l : List FV} {vs : Array Value} {us : List Value} {o : Nat} (h : VRs Z cs vs) (hl : VRs Z l us.toArray) (ho : o + l.length ≤ cs.length) : VRs Z (wrF cs o l) (wr vs o us) := by
  have hlen : us.length = l.length := by simpa using hl.len
  refine ⟨by rw [wr_size, wrF_length ho]; exact h.len, fun i hi => ?_⟩
  rw [wrF_length ho] at hi
  rw [wrF_get ho, wr_get _ _ _ _ (by rw [h.len, hlen]; exact ho), hlen]
  by_cases hc : o ≤ i ∧ i < o + l.length
  · rw [if_pos hc, if_pos hc]
    have := hl.get (i - o) (by omega)
    have e : us.toArray.getD (i - o) undef = us.getD (i - o) undef := by simp [Array.getD, List.getD, show i - o < us.length by omega]
    rwa [e] at this
  · rw [if_neg hc, if_neg hc]
    exact h.get i hi

end Go.Fs

namespace Go.Fs
open Go

theorem PR.of {P : Program} {o : Oper} {ρ : Operand → TV} {x : TV}
    (h : ∀ (Z : Ctx) (w : World) (β : Nat → Nat) (ρ' : Operand → Value), (∀ b i v, Z.cell b i = some v → w.cell? ⟨b, i, none⟩ = some v) → (∀ y, y ∈ o.op.operands → TVR Z β (ρ y) (ρ' y)) →
      ∃ v, (execOp ρ' o).run P w = .ok (.value v) w ∧ TVR Z β x v) : PR P o ρ x :=
  fun Z w _ β ρ' hh hr => let ⟨v, h1, h2⟩ := h Z w β ρ' hh.cell hr; ⟨v, w, Z, h1, Ctx.le.refl Z, hh, h2, rfl⟩

section inv
variable {Z : Ctx} {v : Value}
theorem VR.bool_inv {b : Bool} (h : VR Z (.bool b) v) : v = .bool b := by cases h; rfl
theorem VR.int_inv {k : IntKind} {n : Int} (h : VR Z (.int k n) v) : v = .int k n ∧ k.has n := by cases h with | int k n hk => exact ⟨rfl, hk⟩
theorem VR.str_inv {s : List UInt8} (h : VR Z (.str s) v) : v = .string ⟨⟨s⟩⟩ ∧ s.length < LB := by cases h with | str s hs => exact ⟨rfl, hs⟩
theorem VR.agg_inv {cs : List FV} (h : VR Z (.agg cs) v) : ∃ vs, v = .agg vs ∧ VRs Z cs vs := by cases h with | agg cs vs hl hv => exact ⟨vs, rfl, hl, hv⟩
theorem VR.tup_inv {cs : List FV} (h : VR Z (.tup cs) v) : ∃ vs, v = .tuple vs ∧ VRs Z cs vs := by cases h with | tup cs vs hl hv => exact ⟨vs, rfl, hl, hv⟩
theorem VR.ptr_inv {b o : Nat} (h : VR Z (.ptr (some (b, o))) v) : v = .pointer (some ⟨b, o, none⟩) := by cases h; rfl
theorem VR.rsl_inv {sz t off len : Nat} (h : VR Z (.rsl sz t off len) v) : (∃ b cap, v = .slice (some ⟨b, off * sz, none⟩) len cap ∧ Z.nm t = some (some b) ∧ Z.size b = some ((off + cap) * sz) ∧ len ≤ cap ∧ len < LB) ∨
    (∃ a, v = .slice a 0 0 ∧ Z.nm t = some none ∧ off = 0 ∧ len = 0) := by
  cases h with
  | rsl sz t b off len cap hn hs hl hb => exact Or.inl ⟨b, cap, rfl, hn, hs, hl, hb⟩
  | rsl0 sz t a hn => exact Or.inr ⟨a, rfl, hn, rfl, rfl⟩
theorem VR.nilsl_inv (h : VR Z .nilsl v) : v = .slice none 0 0 := by cases h; rfl

/-- A slice that is only read: where its cells lie. -/
structure SlAt (Z : Ctx) (sz : Nat) (es : List (List FV)) (a : Option Addr) : Prop where
  len : ∀ e, e ∈ es → e.length = sz
  bound : es.length < LB
  cells : es ≠ [] → ∃ b o, a = some ⟨b, o, none⟩ ∧ ∃ vs : Nat → Value, (∀ i, i < es.length * sz → Z.cell b (o + i) = some (vs i)) ∧
    (∀ i j, i < es.length → j < sz → VR Z ((es.getD i []).getD j .und) (vs (i * sz + j)))

theorem VR.sl_inv {sz : Nat} {es : List (List FV)} (h : VR Z (.sl sz es) v) : ∃ a cap, v = .slice a es.length cap ∧ es.length ≤ cap ∧ SlAt Z sz es a := by
  cases h with
  | sl sz es b o vs cap hz hc hv hcap hb => exact ⟨_, cap, rfl, hcap, hz, hb, fun _ => ⟨b, o, rfl, vs, hc, hv⟩⟩
  | slN sz => exact ⟨none, 0, rfl, Nat.le_refl _, fun e he => by simp at he, by simp, fun h => absurd rfl h⟩
  | slN' sz a => exact ⟨a, 0, rfl, Nat.le_refl _, fun e he => by simp at he, by simp, fun h => absurd rfl h⟩
theorem VR.slx_inv {sz : Nat} {es : List (List FV)} (h : VR Z (.slx sz es) v) : ∃ a, v = .slice a es.length es.length ∧ SlAt Z sz es a := by
  cases h with
  | slx sz es b o vs hz hc hv hb => exact ⟨_, rfl, hz, hb, fun _ => ⟨b, o, rfl, vs, hc, hv⟩⟩
  | slxN sz a => exact ⟨a, rfl, fun e he => by simp at he, by simp, fun h => absurd rfl h⟩
end inv

section ops
variable {P : Program} {o : Oper} {ρ : Operand → TV}

theorem PR_move {y : Operand} (ho : o.op = .move y) : PR P o ρ (ρ y) := PR.of fun Z w β ρ' _ hr =>
  ⟨ρ' y, by simp [execOp, ho], hr y (by simp [ho, Op.operands])⟩
theorem PR_assign {y : Operand} (ho : o.op = .assign y) : PR P o ρ (ρ y) := PR.of fun Z w β ρ' _ hr =>
  ⟨ρ' y, by simp [execOp, ho], hr y (by simp [ho, Op.operands])⟩

def pickB (c : Bool) (a b : TV) : TV := match c with | true => a | false => b

theorem PR_pick {c a b : Operand} {t : Bool} (ho : o.op = .pick c a b) (hc : ρ c = .v (.bool t)) : PR P o ρ (pickB t (ρ a) (ρ b)) := PR.of fun Z w β ρ' _ hr => by
  have h1 := hr c (by simp [ho, Op.operands])
  rw [hc] at h1
  have h1' := VR.bool_inv h1
  refine ⟨if t then ρ' a else ρ' b, by simp [execOp, ho, h1', asBool], ?_⟩
  cases t
  · exact hr b (by simp [ho, Op.operands])
  · exact hr a (by simp [ho, Op.operands])

theorem PR_not {t : TypeId} {y : Operand} {b : Bool} (ho : o.op = .unOp .not t y) (hy : ρ y = .v (.bool b)) : PR P o ρ (.v (.bool !b)) := PR.of fun Z w β ρ' _ hr => by
  have h1 := hr y (by simp [ho, Op.operands])
  rw [hy] at h1
  have h1' := VR.bool_inv h1
  exact ⟨.bool !b, by simp [execOp, ho, h1', Op.unary], .bool _⟩

def InR (n : Int) : Prop := -9223372036854775808 ≤ n ∧ n ≤ 9223372036854775807

theorem InR.has {n : Int} (h : InR n) : IntKind.i64.has n := by
  have h1 : IntKind.i64.min = -9223372036854775808 := by decide
  have h2 : IntKind.i64.max = 9223372036854775807 := by decide
  unfold IntKind.has; rw [h1, h2]; exact h
theorem InR.of {n : Int} (h : IntKind.i64.has n) : InR n := by
  have h1 : IntKind.i64.min = -9223372036854775808 := by decide
  have h2 : IntKind.i64.max = 9223372036854775807 := by decide
  unfold IntKind.has at h; rw [h1, h2] at h; exact h

theorem wrap_i64 (n : Int) : IntKind.i64.wrap n = if 9223372036854775808 ≤ n % 18446744073709551616 then n % 18446744073709551616 - 18446744073709551616 else n % 18446744073709551616 := by
  unfold IntKind.wrap
  simp only [IntKind.bits, IntKind.signed, Bool.true_and, ge_iff_le, decide_eq_true_eq]
  rfl

theorem wrap_id {n : Int} (h : InR n) : IntKind.i64.wrap n = n := by
  obtain ⟨h1, h2⟩ := h
  rw [wrap_i64]
  split <;> omega

theorem wrap_has (k : IntKind) (n : Int) : k.has (k.wrap n) := by
  unfold IntKind.has IntKind.wrap IntKind.min IntKind.max
  have h0 : (0 : Int) < 2 ^ k.bits := Int.pow_pos (by decide)
  have h1 := Int.emod_nonneg n (Int.ne_of_gt h0)
  have h2 := Int.emod_lt_of_pos n h0
  have h3 : (2 : Int) ^ k.bits = 2 * 2 ^ (k.bits - 1) := by cases k <;> decide
  cases hs : k.signed <;> simp <;> (try split) <;> omega

theorem PR_neg {t : TypeId} {y : Operand} {n : Int} (ho : o.op = .unOp .neg t y) (hy : ρ y = .v (.int .i64 n)) (hi : InR (-n)) : PR P o ρ (.v (.int .i64 (-n))) := PR.of fun Z w β ρ' _ hr => by
  have h1 := hr y (by simp [ho, Op.operands])
  rw [hy] at h1
  have h1' := (VR.int_inv h1).1
  refine ⟨.int .i64 (-n), ?_, .int _ _ hi.has⟩
  simp [execOp, ho, h1', Op.unary, Op.intArith, wrap_id hi]

/-- A binary operation of numbers, as the model has it; and where the result is in range. -/
def arith (op : BinOp) (a b : Int) : Option Int :=
  match op with
  | .add => some (a + b)
  | .sub => some (a - b)
  | .mul => some (a * b)
  | _ => none

def cmpI (op : BinOp) (a b : Int) : Option Bool :=
  match op with
  | .eql => some (a == b)
  | .neq => some (a != b)
  | .lss => some (decide (a < b))
  | .leq => some (decide (a ≤ b))
  | .gtr => some (decide (b < a))
  | .geq => some (decide (b ≤ a))
  | _ => none

theorem PR_bin {op : BinOp} {t u : TypeId} {x y : Operand} {a b : Value} {r : Value} {tv : FV}
    (ho : o.op = .binOp op t x y u)
    (hx : ∀ (Z : Ctx) (β : Nat → Nat) v, TVR Z β (ρ x) v → v = a) (hy : ∀ (Z : Ctx) (β : Nat → Nat) v, TVR Z β (ρ y) v → v = b)
    (hg : ∀ (w : World), (eqGuard op t x y a b).run P w = .ok () w)
    (hb : ∀ (w : World), (binOp op t a b).run P w = .ok r w)
    (hv : ∀ (Z : Ctx) (β : Nat → Nat) (ρ' : Operand → Value), (∀ y, y ∈ o.op.operands → TVR Z β (ρ y) (ρ' y)) → VR Z tv r) : PR P o ρ (.v tv) := PR.of fun Z w β ρ' _ hr => by
  have h1 := hx Z β _ (hr x (by simp [ho, Op.operands]))
  have h2 := hy Z β _ (hr y (by simp [ho, Op.operands]))
  refine ⟨r, ?_, hv Z β ρ' hr⟩
  simp [execOp, ho, h1, h2, hg, hb]

theorem inv_int {k : IntKind} {n : Int} {tv : TV} (h : tv = .v (.int k n)) (Z : Ctx) (β : Nat → Nat) (v : Value) (r : TVR Z β tv v) : v = .int k n := by subst h; exact (VR.int_inv r).1
theorem inv_str {s : List UInt8} {tv : TV} (h : tv = .v (.str s)) (Z : Ctx) (β : Nat → Nat) (v : Value) (r : TVR Z β tv v) : v = .string ⟨⟨s⟩⟩ := by subst h; exact (VR.str_inv r).1
theorem inv_bool {b : Bool} {tv : TV} (h : tv = .v (.bool b)) (Z : Ctx) (β : Nat → Nat) (v : Value) (r : TVR Z β tv v) : v = .bool b := by subst h; exact VR.bool_inv r

theorem eqGuard_run_int {op : BinOp} {t : TypeId} {x y : Operand} {k : IntKind} {n : Int} {v : Value} (w : World) : (eqGuard op t x y (.int k n) v).run P w = .ok () w := by
  rw [eqGuard_at_int]; rfl
theorem eqGuard_run_str {op : BinOp} {t : TypeId} {x y : Operand} {s : ByteArray} {v : Value} (w : World) : (eqGuard op t x y (.string s) v).run P w = .ok () w := by
  rw [eqGuard_at_string]; rfl
theorem eqGuard_run_bool {op : BinOp} {t : TypeId} {x y : Operand} {b : Bool} {v : Value} (w : World) : (eqGuard op t x y (.bool b) v).run P w = .ok () w := by
  rw [eqGuard_at_bool]; rfl

theorem PR_arith {op : BinOp} {t u : TypeId} {x y : Operand} {a b r : Int} (ho : o.op = .binOp op t x y u) (hx : ρ x = .v (.int .i64 a)) (hy : ρ y = .v (.int .i64 b))
    (hr : arith op a b = some r) (hi : InR r) : PR P o ρ (.v (.int .i64 r)) := by
  refine PR_bin (a := .int .i64 a) (b := .int .i64 b) (r := .int .i64 r) ho (inv_int hx) (inv_int hy) (fun w => eqGuard_run_int w) (fun w => ?_) (fun _ _ _ _ => .int _ _ hi.has)
  cases op <;> simp only [arith, Option.some.injEq] at hr <;> first | (cases hr; done) | skip
  all_goals (subst hr; simp [binOp, Op.intArith, wrap_id hi])

/-- The same for whatever kind, with the wrap. -/
theorem PR_arithW {op : BinOp} {t u : TypeId} {x y : Operand} {k : IntKind} {a b r : Int} (ho : o.op = .binOp op t x y u) (hx : ρ x = .v (.int k a)) (hy : ρ y = .v (.int k b))
    (hr : arith op a b = some r) : PR P o ρ (.v (.int k (k.wrap r))) := by
  refine PR_bin (a := .int k a) (b := .int k b) (r := .int k (k.wrap r)) ho (inv_int hx) (inv_int hy) (fun w => eqGuard_run_int w) (fun w => ?_) (fun _ _ _ _ => .int _ _ (wrap_has _ _))
  cases op <;> simp only [arith, Option.some.injEq] at hr <;> first | (cases hr; done) | skip
  all_goals (subst hr; simp [binOp, Op.intArith])

theorem PR_cmp {op : BinOp} {t u : TypeId} {x y : Operand} {k : IntKind} {a b : Int} {r : Bool} (ho : o.op = .binOp op t x y u) (hx : ρ x = .v (.int k a)) (hy : ρ y = .v (.int k b))
    (hr : cmpI op a b = some r) : PR P o ρ (.v (.bool r)) := by
  refine PR_bin (a := .int k a) (b := .int k b) (r := .bool r) ho (inv_int hx) (inv_int hy) (fun w => eqGuard_run_int w) (fun w => ?_) (fun _ _ _ _ => .bool _)
  cases op <;> simp only [cmpI, Option.some.injEq] at hr <;> first | (cases hr; done) | skip
  all_goals (subst hr; simp [binOp, Op.intCmp])

def bitsI (op : BinOp) (k : IntKind) (a b : Int) : Option Int :=
  match op with
  | .and => some (k.wrap (BitVec.ofInt k.bits a &&& BitVec.ofInt k.bits b).toNat)
  | .or => some (k.wrap (BitVec.ofInt k.bits a ||| BitVec.ofInt k.bits b).toNat)
  | .xor => some (k.wrap (BitVec.ofInt k.bits a ^^^ BitVec.ofInt k.bits b).toNat)
  | .andNot => some (k.wrap (BitVec.ofInt k.bits a &&& ~~~BitVec.ofInt k.bits b).toNat)
  | _ => none

theorem PR_bits {op : BinOp} {t u : TypeId} {x y : Operand} {k : IntKind} {a b r : Int} (ho : o.op = .binOp op t x y u) (hx : ρ x = .v (.int k a)) (hy : ρ y = .v (.int k b))
    (hr : bitsI op k a b = some r) : PR P o ρ (.v (.int k r)) := by
  have hh : k.has r := by
    cases op <;> simp only [bitsI, Option.some.injEq] at hr <;> first | (cases hr; done) | skip
    all_goals (subst hr; exact wrap_has _ _)
  refine PR_bin (a := .int k a) (b := .int k b) (r := .int k r) ho (inv_int hx) (inv_int hy) (fun w => eqGuard_run_int w) (fun w => ?_) (fun _ _ _ _ => .int _ _ hh)
  cases op <;> simp only [bitsI, Option.some.injEq] at hr <;> first | (cases hr; done) | skip
  all_goals (subst hr; simp [binOp, Op.intBits])

theorem PR_shl {t u : TypeId} {x y : Operand} {k yk : IntKind} {a b : Int} (ho : o.op = .binOp .shl t x y u) (hx : ρ x = .v (.int k a)) (hy : ρ y = .v (.int yk b))
    (hb : 0 ≤ b) : PR P o ρ (.v (.int k (k.wrap (a * 2 ^ (min b.toNat k.bits))))) := by
  refine PR_bin (a := .int k a) (b := .int yk b) (r := .int k (k.wrap (a * 2 ^ (min b.toNat k.bits)))) ho (inv_int hx) (inv_int hy) (fun w => eqGuard_run_int w) (fun w => ?_) (fun _ _ _ _ => .int _ _ (wrap_has _ _))
  simp [binOp, Op.shift, show ¬ b < 0 by omega]

theorem has_fdiv {k : IntKind} {a : Int} (h : k.has a) (n : Nat) : k.has (a.fdiv (2 ^ n)) := by
  have h1 : (0 : Int) < 2 ^ n := Int.pow_pos (by decide)
  obtain ⟨l, u⟩ := h
  have hmin : k.min ≤ 0 := by cases k <;> decide
  have hmax : 0 ≤ k.max := by cases k <;> decide
  rw [Int.fdiv_eq_ediv_of_nonneg _ (Int.le_of_lt h1)]
  constructor
  · by_cases ha : 0 ≤ a
    · have := Int.ediv_nonneg ha (Int.le_of_lt h1); omega
    · have : a ≤ a / 2 ^ n := by
        apply Int.le_ediv_of_mul_le h1
        have : a * 2 ^ n ≤ a * 1 := Int.mul_le_mul_of_nonpos_left (by omega) (by omega)
        omega
      omega
  · by_cases ha : 0 ≤ a
    · have := Int.ediv_le_self (2 ^ n) ha; omega
    · have : a / 2 ^ n < 0 := Int.ediv_neg_of_neg_of_pos (by omega) h1
      omega

theorem PR_shr {t u : TypeId} {x y : Operand} {k yk : IntKind} {a b : Int} (ho : o.op = .binOp .shr t x y u) (hx : ρ x = .v (.int k a)) (hy : ρ y = .v (.int yk b))
    (hb : 0 ≤ b) : PR P o ρ (.v (.int k (a.fdiv (2 ^ (min b.toNat k.bits))))) := by
  refine PR_bin (a := .int k a) (b := .int yk b) (r := .int k (a.fdiv (2 ^ (min b.toNat k.bits)))) ho (inv_int hx) (inv_int hy) (fun w => eqGuard_run_int w) (fun w => ?_) (fun Z β ρ' hr => ?_)
  · simp [binOp, Op.shift, show ¬ b < 0 by omega]
  · have h1 := hr x (by simp [ho, Op.operands])
    rw [hx] at h1
    exact .int _ _ (has_fdiv (VR.int_inv h1).2 _)

theorem PR_quo {t u : TypeId} {x y : Operand} {k : IntKind} {a b : Int} (ho : o.op = .binOp .quo t x y u) (hx : ρ x = .v (.int k a)) (hy : ρ y = .v (.int k b))
    (hb : b ≠ 0) : PR P o ρ (.v (.int k (k.wrap (a.tdiv b)))) := by
  refine PR_bin (a := .int k a) (b := .int k b) (r := .int k (k.wrap (a.tdiv b))) ho (inv_int hx) (inv_int hy) (fun w => eqGuard_run_int w) (fun w => ?_) (fun _ _ _ _ => .int _ _ (wrap_has _ _))
  simp [binOp, Op.intDiv, hb]

theorem has_tmod {k : IntKind} {a : Int} (h : k.has a) (b : Int) : k.has (a.tmod b) := by
  obtain ⟨l, u⟩ := h
  have hmin : k.min ≤ 0 := by cases k <;> decide
  have hmax : 0 ≤ k.max := by cases k <;> decide
  by_cases ha : 0 ≤ a
  · have h1 := Int.tmod_nonneg b ha
    have h2 : a.tmod b ≤ a := by
      rw [Int.tmod_def]
      have : 0 ≤ b * a.tdiv b := by
        rcases Int.le_total 0 b with hb | hb
        · exact Int.mul_nonneg hb (Int.tdiv_nonneg ha hb)
        · exact Int.mul_nonneg_of_nonpos_of_nonpos hb (Int.tdiv_nonpos_of_nonneg_of_nonpos ha hb)
      omega
    exact ⟨by omega, by omega⟩
  · have h0 : 0 ≤ -a := by omega
    have e : a.tmod b = -((-a).tmod b) := by rw [Int.neg_tmod]; omega
    have h1 := Int.tmod_nonneg b h0
    have h2 : (-a).tmod b ≤ -a := by
      rw [Int.tmod_def]
      have : 0 ≤ b * (-a).tdiv b := by
        rcases Int.le_total 0 b with hb | hb
        · exact Int.mul_nonneg hb (Int.tdiv_nonneg h0 hb)
        · exact Int.mul_nonneg_of_nonpos_of_nonpos hb (Int.tdiv_nonpos_of_nonneg_of_nonpos h0 hb)
      omega
    exact ⟨by omega, by omega⟩

theorem PR_rem {t u : TypeId} {x y : Operand} {k : IntKind} {a b : Int} (ho : o.op = .binOp .rem t x y u) (hx : ρ x = .v (.int k a)) (hy : ρ y = .v (.int k b))
    (hb : b ≠ 0) : PR P o ρ (.v (.int k (a.tmod b))) := by
  refine PR_bin (a := .int k a) (b := .int k b) (r := .int k (a.tmod b)) ho (inv_int hx) (inv_int hy) (fun w => eqGuard_run_int w) (fun w => ?_) (fun Z β ρ' hr => ?_)
  · simp [binOp, Op.intDiv, hb]
  · have h1 := hr x (by simp [ho, Op.operands])
    rw [hx] at h1
    exact .int _ _ (has_tmod (VR.int_inv h1).2 _)

end ops
end Go.Fs

namespace Go.Fs
open Go

/-- What is to be known of a type of the program. -/
structure TI where
  kd : Nat
  size : Nat
  zero : Value
  offs : List Nat
  el : Nat
  esz : Nat
  eb : Nat

def kdOf (P : Program) (t : TypeId) : Nat :=
  match P.underlying t with
  | some .bool => 1
  | some (.int _) => 2
  | some .string => 3
  | some (.pointer _) => 4
  | some (.slice _) => 5
  | some (.map _ _) => 6
  | some (.struct _) => 7
  | some (.array _ _) => 8
  | some (.func _ _ _) => 9
  | some (.tuple _) => 10
  | _ => 0

def elOf (P : Program) (t : TypeId) : TypeId :=
  match P.underlying t with
  | some (.slice e) => e
  | some (.array _ e) => e
  | some (.map _ e) => e
  | _ => 0

def eszOf (P : Program) (t : TypeId) : Option Nat := tySize P (elOf P t)
def ebOf (P : Program) (t : TypeId) : Option Nat := (P.info? (elOf P t)).map (·.bytes)

def offsOf (P : Program) (t : TypeId) : List Nat :=
  match P.underlying t with
  | some (.struct fs) => if fs.toList.all (fun f => match tySize P f.type with | some (_ + 1) => true | _ => false) then fs.toList.map (·.offset) else []
  | _ => []

structure TIok (P : Program) (t : TypeId) (i : TI) : Prop where
  kd : kdOf P t = i.kd
  has : tyHas P t = true
  size : tySize P t = some i.size
  zero : (P.info? t).bind (·.zero) = some i.zero
  offs : offsOf P t = i.offs
  el : elOf P t = i.el
  esz : i.kd = 5 → eszOf P t = some i.esz
  eb : i.kd = 5 → ebOf P t = some i.eb

theorem und_string {P : Program} {t : TypeId} (h : kdOf P t = 3) : P.underlying t = some .string := by
  unfold kdOf at h; split at h <;> first | assumption | omega
theorem und_bool {P : Program} {t : TypeId} (h : kdOf P t = 1) : P.underlying t = some .bool := by
  unfold kdOf at h; split at h <;> first | assumption | omega
theorem und_slice {P : Program} {t : TypeId} (h : kdOf P t = 5) : P.underlying t = some (.slice (elOf P t)) := by
  unfold kdOf at h; unfold elOf; split at h <;> first | (simp [*]; done) | omega
theorem und_int {P : Program} {t : TypeId} (h : kdOf P t = 2) : ∃ k, P.underlying t = some (.int k) := by
  unfold kdOf at h; split at h <;> first | exact ⟨_, by assumption⟩ | omega
theorem und_struct {P : Program} {t : TypeId} (h : kdOf P t = 7) : ∃ fs, P.underlying t = some (.struct fs) := by
  unfold kdOf at h; split at h <;> first | exact ⟨_, by assumption⟩ | omega

theorem tyAgg_kd {P : Program} {t : TypeId} : tyAgg P t = (Nat.beq (kdOf P t) 7 || Nat.beq (kdOf P t) 8) := by
  unfold tyAgg kdOf
  cases P.underlying t with
  | none => rfl
  | some d => cases d <;> rfl

section ops
variable {P : Program} {o : Oper} {ρ : Operand → TV}

def strCmp (op : BinOp) (a b : List UInt8) : Option Bool :=
  match op with
  | .eql => some (a == b)
  | .neq => some (!(a == b))
  | .lss => some (Op.bytesLess a b)
  | .leq => some (Op.bytesLess a b || a == b)
  | .gtr => some (!(Op.bytesLess a b || a == b))
  | .geq => some (!(Op.bytesLess a b))
  | _ => none

theorem toList_ba (l : List UInt8) : (⟨⟨l⟩⟩ : ByteArray).toList = l := by rw [ByteArray.toList_eq]

theorem PR_strCmp {op : BinOp} {t u : TypeId} {x y : Operand} {a b : List UInt8} {r : Bool} (ho : o.op = .binOp op t x y u) (hx : ρ x = .v (.str a)) (hy : ρ y = .v (.str b))
    (hr : strCmp op a b = some r) : PR P o ρ (.v (.bool r)) := by
  refine PR_bin (a := .string ⟨⟨a⟩⟩) (b := .string ⟨⟨b⟩⟩) (r := .bool r) ho (inv_str hx) (inv_str hy) (fun w => eqGuard_run_str w) (fun w => ?_) (fun _ _ _ _ => .bool _)
  cases op <;> simp only [strCmp, Option.some.injEq] at hr <;> first | (cases hr; done) | skip
  all_goals (subst hr; simp [binOp, Op.stringOp])

theorem PR_strAdd {t u : TypeId} {x y : Operand} {a b : List UInt8} (ho : o.op = .binOp .add t x y u) (hx : ρ x = .v (.str a)) (hy : ρ y = .v (.str b))
    (hl : (a ++ b).length < LB) : PR P o ρ (.v (.str (a ++ b))) := by
  refine PR_bin (a := .string ⟨⟨a⟩⟩) (b := .string ⟨⟨b⟩⟩) (r := .string ⟨⟨a ++ b⟩⟩) ho (inv_str hx) (inv_str hy) (fun w => eqGuard_run_str w) (fun w => ?_) (fun _ _ _ _ => .str _ hl)
  have hs : (⟨⟨a⟩⟩ : ByteArray).size + (⟨⟨b⟩⟩ : ByteArray).size = (a ++ b).length := by simp [ByteArray.size]
  have he : (⟨⟨a⟩⟩ : ByteArray) ++ ⟨⟨b⟩⟩ = ⟨⟨a ++ b⟩⟩ := by
    apply ByteArray.ext
    simp
  have hm : ¬ (((a ++ b).length : Int) > IntKind.i64.max) := by simp [LB] at hl ⊢; omega
  simp only [binOp, Op.stringOp, hs, he]
  rw [if_neg hm]; rfl

theorem run_equalIn_bool {t : TypeId} (ht : kdOf P t = 1) (d : Nat) (a b : Bool) (w : World) : (Op.equalIn (d + 1) t (.bool a) (.bool b)).run P w = .ok (a == b) w := by
  unfold Op.equalIn
  simp [run_underlying (und_bool ht)]

theorem run_equal_bool {t : TypeId} (ht : kdOf P t = 1) (a b : Bool) (w : World) : (Op.equal t (.bool a) (.bool b)).run P w = .ok (a == b) w :=
  run_equalIn_bool ht 9999 a b w

theorem PR_boolEq {t u : TypeId} {x y : Operand} {a b : Bool} (ho : o.op = .binOp .eql t x y u) (hx : ρ x = .v (.bool a)) (hy : ρ y = .v (.bool b)) (ht : kdOf P t = 1) :
    PR P o ρ (.v (.bool (a == b))) := by
  refine PR_bin (a := .bool a) (b := .bool b) (r := .bool (a == b)) ho (inv_bool hx) (inv_bool hy) (fun w => eqGuard_run_bool w) (fun w => ?_) (fun _ _ _ _ => .bool _)
  simp only [binOp, Sem.run_bind, run_equal_bool ht, Result.andThen_ok, Sem.run_pure]

theorem PR_boolNe {t u : TypeId} {x y : Operand} {a b : Bool} (ho : o.op = .binOp .neq t x y u) (hx : ρ x = .v (.bool a)) (hy : ρ y = .v (.bool b)) (ht : kdOf P t = 1) :
    PR P o ρ (.v (.bool (a != b))) := by
  refine PR_bin (a := .bool a) (b := .bool b) (r := .bool (a != b)) ho (inv_bool hx) (inv_bool hy) (fun w => eqGuard_run_bool w) (fun w => ?_) (fun _ _ _ _ => .bool _)
  simp only [binOp, Sem.run_bind, run_equal_bool ht, Result.andThen_ok, Sem.run_pure, bne]

/-- A pointer moved by some cells. -/
def shift (x : TV) (n : Nat) : Option TV :=
  match x with
  | .loc s p => some (.loc s (p + n))
  | .v (.ptr (some (b, p))) => some (.v (.ptr (some (b, p + n))))
  | .v (.rp sz t i j) => some (.v (.rp sz t i (j + n)))
  | .v (.pp cs) => match Nat.ble n cs.length with
    | true => some (.v (.pp (cs.drop n)))
    | false => none
  | _ => none

theorem shift_ok {Z : Ctx} {β : Nat → Nat} {x y : TV} {n : Nat} {v : Value} (h : shift x n = some y) (hv : TVR Z β x v) :
    ∃ b p, v = .pointer (some ⟨b, p, none⟩) ∧ TVR Z β y (.pointer (some ⟨b, p + n, none⟩)) := by
  unfold shift at h
  split at h
  · cases h; exact ⟨_, _, hv, rfl⟩
  · cases h; exact ⟨_, _, VR.ptr_inv hv, .ptr _ _⟩
  · rename_i sz' t' i' j'
    cases h
    cases hv with
    | rp _ _ _ _ b hn =>
      refine ⟨b, _, rfl, ?_⟩
      have := VR.rp (Z := Z) sz' t' i' (j' + n) b hn
      rw [← Nat.add_assoc] at this
      exact this
  · rename_i cs
    split at h
    · rename_i hb
      cases h
      have hle : n ≤ cs.length := Nat.le_of_ble_eq_true hb
      cases hv with
      | pp cs b p vs hc hv =>
        refine ⟨b, p, rfl, .pp _ b (p + n) (fun i => vs (n + i)) (fun i hi => ?_) (fun i hi => ?_)⟩
        · simp at hi; rw [Nat.add_assoc]; exact hc (n + i) (by omega)
        · simp at hi
          have := hv (n + i) (by omega)
          simpa [List.getD, List.getElem?_drop] using this
    · cases h
  · cases h

theorem PR_fieldAddr {t : TypeId} {y : Operand} {f n : Nat} {x : TV} (ho : o.op = .fieldAddr t y f) (hn : (offsOf P t)[f]? = some n) (hx : shift (ρ y) n = some x) : PR P o ρ x := PR.of fun Z w β ρ' _ hr => by
  obtain ⟨b, p, h1, h2⟩ := shift_ok hx (hr y (by simp [ho, Op.operands]))
  refine ⟨_, ?_, h2⟩
  unfold offsOf at hn
  split at hn
  · rename_i fs hu
    split at hn
    · rename_i hall
      rw [List.getElem?_map] at hn
      cases hf : fs.toList[f]? with
      | none => simp [hf] at hn
      | some fd =>
        have hoff : fd.offset = n := by simpa [hf] using hn
        have hf' : fs[f]? = some fd := by simpa using hf
        have hmem : fd ∈ fs.toList := List.mem_of_getElem? hf
        have hz := (List.all_eq_true.1 hall) fd hmem
        cases hs : tySize P fd.type with
        | none => simp [hs] at hz
        | some s =>
          have hs0 : s ≠ 0 := by intro e; subst e; simp [hs] at hz
          simp [execOp, ho, h1, Instr.fieldAt, run_underlying hu, hf', Instr.sureAddr, fieldPlace, run_sizeOf w hs, hs0, addr_add, hoff]
    · simp at hn
  · simp at hn

theorem PR_extract {y : Operand} {i : Nat} {cs : List FV} {x : FV} (ho : o.op = .extract y i) (hy : ρ y = .v (.tup cs)) (hi : cs[i]? = some x) : PR P o ρ (.v x) := PR.of fun Z w β ρ' _ hr => by
  have h1 := hr y (by simp [ho, Op.operands])
  rw [hy] at h1
  obtain ⟨vs, h2, h3⟩ := VR.tup_inv h1
  have hlt : i < cs.length := (List.getElem?_eq_some_iff.1 hi).1
  have hlt' : i < vs.size := by rw [h3.len]; exact hlt
  have := h3.get i hlt
  simp only [List.getD, hi, Option.getD_some] at this
  refine ⟨vs.getD i undef, ?_, this⟩
  simp [execOp, ho, h2, Instr.extract, hlt']

theorem PR_nilCheck {y : Operand} (ho : o.op = .nilCheck y) (hy : shift (ρ y) 0 ≠ none) : PR P o ρ (ρ y) := PR.of fun Z w β ρ' _ hr => by
  have h := hr y (by simp [ho, Op.operands])
  cases hs : shift (ρ y) 0 with
  | none => exact absurd hs hy
  | some x =>
    obtain ⟨b, p, h1, h2⟩ := shift_ok hs h
    exact ⟨ρ' y, by simp [execOp, ho, h1], h⟩

/-- The values of some operands. -/
def vals (ρ : Operand → TV) : List Operand → Option (List FV)
  | [] => some []
  | y :: r => match ρ y, vals ρ r with
    | .v x, some l => some (x :: l)
    | _, _ => none

theorem vals_ok {Z : Ctx} {β : Nat → Nat} {ρ' : Operand → Value} : ∀ {l : List Operand} {xs : List FV}, vals ρ l = some xs → (∀ y, y ∈ l → TVR Z β (ρ y) (ρ' y)) → VRs Z xs (l.map ρ').toArray
  | [], xs, h, _ => by simp [vals] at h; subst h; exact VRs.nil Z
  | y :: r, xs, h, hr => by
    simp only [vals] at h
    cases hy : ρ y with
    | loc s p => simp [hy] at h
    | v x =>
      cases hrest : vals ρ r with
      | none => simp [hy, hrest] at h
      | some l =>
        simp only [hy, hrest, Option.some.injEq] at h
        subst h
        have ih := vals_ok hrest (fun z hz => hr z (by simp [hz]))
        have h0 := hr y (by simp)
        rw [hy] at h0
        refine ⟨by simpa using ih.len, fun i hi => ?_⟩
        cases i with
        | zero => exact h0
        | succ i =>
          have := ih.get i (by simpa using hi)
          simpa [Array.getD] using this

theorem PR_makeFunc {f : FuncId} {caps : Array Operand} {cs : List FV} (ho : o.op = .makeFunc (.func f) #[] caps) (hc : vals ρ caps.toList = some cs) : PR P o ρ (.v (.fn f cs)) := PR.of fun Z w β ρ' _ hr => by
  have h := vals_ok (Z := Z) (β := β) (ρ' := ρ') hc (fun y hy => hr y (by simp [ho, Op.operands]; simpa using hy))
  have e : (caps.toList.map ρ').toArray = caps.map ρ' := by apply Array.ext'; simp
  rw [e] at h
  refine ⟨.func (.func f) #[] (caps.map ρ'), ?_, .fn f cs _ h.len h.get⟩
  simp [execOp, ho, Instr.makeFunc]

theorem PR_index_str {t : TypeId} {y i : Operand} {s : List UInt8} {k : IntKind} {n : Int} {c : UInt8} (ho : o.op = .index t y i) (hy : ρ y = .v (.str s)) (hi : ρ i = .v (.int k n))
    (ht : kdOf P t = 3) (h0 : 0 ≤ n) (hc : s[n.toNat]? = some c) : PR P o ρ (.v (.int .u8 c.toNat)) := PR.of fun Z w β ρ' _ hr => by
  have h1 := hr y (by simp [ho, Op.operands])
  have h2 := hr i (by simp [ho, Op.operands])
  rw [hy] at h1
  rw [hi] at h2
  have e1 := (VR.str_inv h1).1
  have e2 := (VR.int_inv h2).1
  have hu : IntKind.u8.has c.toNat := by
    have : c.toNat < 256 := c.toNat_lt
    have h1 : IntKind.u8.min = 0 := by decide
    have h2 : IntKind.u8.max = 255 := by decide
    unfold IntKind.has; rw [h1, h2]; omega
  refine ⟨.int .u8 c.toNat, ?_, .int _ _ hu⟩
  have hlt : n.toNat < s.length := (List.getElem?_eq_some_iff.1 hc).1
  have hget : (⟨⟨s⟩⟩ : ByteArray)[n.toNat]? = some c := by
    have hsz : n.toNat < (⟨⟨s⟩⟩ : ByteArray).size := by simpa [ByteArray.size] using hlt
    rw [getElem?_pos (⟨⟨s⟩⟩ : ByteArray) n.toNat hsz]
    have := (List.getElem?_eq_some_iff.1 hc).2
    congr 1
  simp [execOp, ho, e1, e2, Instr.index, asIntOf, run_underlying (und_string ht), h0, hget]

theorem PR_len_str {t : TypeId} {y : Operand} {s : List UInt8} (ho : ∃ c, o.op = .call c ∧ c.callee = .builtin .len ∧ c.args = #[y] ∧ c.argTypes = #[t]) (hy : ρ y = .v (.str s)) (ht : kdOf P t = 3) :
    PR P o ρ (.v (.int .i64 s.length)) := PR.of fun Z w β ρ' _ hr => by
  obtain ⟨c, ho, hc, ha, hty⟩ := ho
  have h1 := hr y (by simp [ho, Op.operands, Call.operands, hc, ha])
  rw [hy] at h1
  obtain ⟨e1, hl⟩ := VR.str_inv h1
  refine ⟨.int .i64 s.length, ?_, .int _ _ (InR.has (by unfold InR; unfold LB at hl; omega))⟩
  simp only [execOp, ho, resolve, hc, ha, hty]
  simp [e1, invoke, builtin, run_len_string w t o.type ⟨⟨s⟩⟩ (und_string ht)]
  simp [goInt, ByteArray.size]

/-- How long a slice is. -/
def slLen : FV → Option Nat
  | .sl _ es => some es.length
  | .slx _ es => some es.length
  | .nilsl => some 0
  | .rsl _ _ _ n => some n
  | _ => none

theorem slLen_ok {Z : Ctx} {x : FV} {n : Nat} {v : Value} (h : slLen x = some n) (hv : VR Z x v) : ∃ a cap, v = .slice a n cap ∧ n < LB ∧ n ≤ cap := by
  unfold slLen at h
  split at h <;> cases h
  · obtain ⟨a, cap, rfl, hcap, hs⟩ := VR.sl_inv hv; exact ⟨a, cap, rfl, hs.bound, hcap⟩
  · obtain ⟨a, rfl, hs⟩ := VR.slx_inv hv; exact ⟨a, _, rfl, hs.bound, Nat.le_refl _⟩
  · have := VR.nilsl_inv hv; subst this; exact ⟨none, 0, rfl, by decide, Nat.le_refl _⟩
  · rcases VR.rsl_inv hv with ⟨b, cap, rfl, _, _, hc, hb⟩ | ⟨a, rfl, _, _, rfl⟩
    · exact ⟨_, cap, rfl, hb, hc⟩
    · exact ⟨a, 0, rfl, by decide, Nat.le_refl _⟩

theorem PR_len_slice {t : TypeId} {y : Operand} {x : FV} {n : Nat} (ho : ∃ c, o.op = .call c ∧ c.callee = .builtin .len ∧ c.args = #[y] ∧ c.argTypes = #[t]) (hy : ρ y = .v x) (hn : slLen x = some n) (ht : kdOf P t = 5) :
    PR P o ρ (.v (.int .i64 n)) := PR.of fun Z w β ρ' _ hr => by
  obtain ⟨c, ho, hc, ha, hty⟩ := ho
  have h1 := hr y (by simp [ho, Op.operands, Call.operands, hc, ha])
  rw [hy] at h1
  obtain ⟨a, cap, e1, hl, _⟩ := slLen_ok hn h1
  refine ⟨.int .i64 n, ?_, .int _ _ (InR.has (by unfold InR; unfold LB at hl; omega))⟩
  simp [execOp, ho, resolve, hc, ha, hty, e1, invoke, builtin, Builtin.len_, run_underlying (und_slice ht), goInt]

/-- The element of a slice that is only read. -/
def slEl (x : FV) (sz i : Nat) : Option (List FV) :=
  match x with
  | .sl s es => if s = sz then es[i]? else none
  | .slx s es => if s = sz then es[i]? else none
  | _ => none

theorem PR_indexAddr_sl {t : TypeId} {y i : Operand} {x : FV} {sz : Nat} {k : IntKind} {n : Int} {e : List FV} (ho : o.op = .indexAddr t y i) (hy : ρ y = .v x) (hi : ρ i = .v (.int k n))
    (ht : kdOf P t = 5) (hz : eszOf P t = some sz) (h0 : 0 ≤ n) (he : slEl x sz n.toNat = some e) : PR P o ρ (.v (.pp e)) := PR.of fun Z w β ρ' _ hr => by
  have h1 := hr y (by simp [ho, Op.operands])
  have h2 := hr i (by simp [ho, Op.operands])
  rw [hy] at h1
  rw [hi] at h2
  have e2 := (VR.int_inv h2).1
  have key : ∃ es a cap, ρ' y = .slice a es.length cap ∧ SlAt Z sz es a ∧ es[n.toNat]? = some e := by
    unfold slEl at he
    split at he
    · split at he
      · rename_i hs; subst hs
        obtain ⟨a, cap, hv, _, hs⟩ := VR.sl_inv h1; exact ⟨_, a, cap, hv, hs, he⟩
      · cases he
    · split at he
      · rename_i hs; subst hs
        obtain ⟨a, hv, hs⟩ := VR.slx_inv h1; exact ⟨_, a, _, hv, hs, he⟩
      · cases he
    · cases he
  obtain ⟨es, a, cap, e1, hs, hget⟩ := key
  have hlt : n.toNat < es.length := (List.getElem?_eq_some_iff.1 hget).1
  obtain ⟨b, p, rfl, vs, hc, hv⟩ := hs.cells (fun h => by subst h; simp at hlt)
  have hel : e.length = sz := hs.len e (List.mem_of_getElem? hget)
  have hn : n < (es.length : Int) := by omega
  refine ⟨.pointer (some ⟨b, p + n.toNat * sz, none⟩), ?_, .pp e b (p + n.toNat * sz) (fun j => vs (n.toNat * sz + j)) (fun j hj => ?_) (fun j hj => ?_)⟩
  · simp [execOp, ho, e1, e2, Instr.indexAt, asIntOf, run_underlying (und_slice ht), h0, hn, run_sizeOf w hz, addr_add]
  · have : n.toNat * sz + j < es.length * sz := by
      have h3 : (n.toNat + 1) * sz ≤ es.length * sz := Nat.mul_le_mul_right sz hlt
      rw [Nat.add_mul] at h3; omega
    rw [Nat.add_assoc]; exact hc _ this
  · have := hv n.toNat j hlt (by omega)
    simpa [List.getD, hget] using this

theorem PR_indexAddr_rsl {t : TypeId} {y i : Operand} {sz τ off len : Nat} {k : IntKind} {n : Int} (ho : o.op = .indexAddr t y i) (hy : ρ y = .v (.rsl sz τ off len)) (hi : ρ i = .v (.int k n))
    (ht : kdOf P t = 5) (hz : eszOf P t = some sz) (h0 : 0 ≤ n) (he : n < len) : PR P o ρ (.v (.rp sz τ (off + n.toNat) 0)) := PR.of fun Z w β ρ' _ hr => by
  have h1 := hr y (by simp [ho, Op.operands])
  have h2 := hr i (by simp [ho, Op.operands])
  rw [hy] at h1
  rw [hi] at h2
  have e2 := (VR.int_inv h2).1
  rcases VR.rsl_inv h1 with ⟨b, cap, e1, hn, _⟩ | ⟨a, _, _, _, rfl⟩
  · have e : (off + n.toNat) * sz + 0 = off * sz + n.toNat * sz := by rw [Nat.add_mul]; rfl
    refine ⟨.pointer (some ⟨b, off * sz + n.toNat * sz, none⟩), ?_, by rw [← e]; exact .rp sz τ _ 0 b hn⟩
    simp [execOp, ho, e1, e2, Instr.indexAt, asIntOf, run_underlying (und_slice ht), h0, he, run_sizeOf w hz, addr_add]
  · omega

theorem PR_load_pp {t : TypeId} {y : Operand} {cs : List FV} {n : Nat} {x : FV} (ho : o.op = .load t y) (hy : ρ y = .v (.pp cs)) (hh : tyHas P t = true) (hn : tySize P t = some n)
    (hx : ldv (tyAgg P t) n cs 0 = some x) : PR P o ρ (.v x) := PR.of fun Z w β ρ' hcell hr => by
  have h1 := hr y (by simp [ho, Op.operands])
  rw [hy] at h1
  generalize hv : ρ' y = v at h1
  cases h1 with
  | pp cs b p vs hc hvr =>
    obtain ⟨u, hu, hxu⟩ := load_ok (P := P) (t := t) (n := n) (Z := Z) (w := w) (b := b) (o := p) (off := 0) (cs := cs) (x := x) vs hh hn (fun i hi => ⟨hcell _ _ _ (hc i hi), hvr i hi⟩) hx
    refine ⟨u, ?_, hxu⟩
    simp only [Nat.add_zero] at hu
    simp [execOp, ho, hv, Instr.loadAt, Instr.sureAddr, hu]

theorem PR_convInt {s d : TypeId} {y : Operand} {k k' : IntKind} {n : Int} (ho : o.op = .convert s d y) (hy : ρ y = .v (.int k n)) (hs : tyHas P s = true) (hd : P.underlying d = some (.int k')) :
    PR P o ρ (.v (.int k' (k'.wrap n))) := PR.of fun Z w β ρ' _ hr => by
  have h1 := hr y (by simp [ho, Op.operands])
  rw [hy] at h1
  have e1 := (VR.int_inv h1).1
  refine ⟨.int k' (k'.wrap n), ?_, .int _ _ (wrap_has _ _)⟩
  unfold tyHas at hs
  obtain ⟨ds, hds⟩ := Option.isSome_iff_exists.1 hs
  simp [execOp, ho, e1, convert, run_underlying hd, run_underlying hds, Conv.intToInt]

theorem wrap_same {k : IntKind} {n : Int} (h : k.has n) : k.wrap n = n := by
  obtain ⟨h1, h2⟩ := h
  unfold IntKind.wrap
  cases k <;> simp [IntKind.min, IntKind.max, IntKind.bits, IntKind.signed] at h1 h2 ⊢ <;> (try split) <;> omega

end ops
end Go.Fs

namespace Go.Fs
open Go

theorem foldl_wr : ∀ (l : List Value) (k off : Nat) (cs : Array Value), (l.zipIdx k).foldl (fun cs (p : Value × Nat) => cs.setIfInBounds (off + p.2) p.1) cs = wr cs (off + k) l
  | [], _, _, _ => rfl
  | v :: r, k, off, cs => by
    simp only [List.zipIdx_cons, List.foldl_cons, wr]
    rw [foldl_wr r (k + 1) off]
    rw [Nat.add_assoc]

theorem foldl_wr' (v : Array Value) (off : Nat) (cs : Array Value) : v.zipIdx.foldl (fun cs (p : Value × Nat) => cs.setIfInBounds (off + p.2) p.1) cs = wr cs off v.toList := by
  rw [← Array.foldl_toList, Array.toList_zipIdx]
  exact foldl_wr v.toList 0 off cs

theorem fill_cons {place : Nat → Option (Nat × Nat)} {cs : Array Value} {i off size : Nat} {v : Value} {r : List (Nat × Value)} (hp : place i = some (off, size)) (h1 : v.cells.size = size) (h2 : off + v.cells.size ≤ cs.size) :
    Instr.fill place cs ((i, v) :: r) = Instr.fill place (wr cs off v.cells.toList) r := by
  rw [Instr.fill, hp]
  simp only
  rw [if_neg (by simp; omega)]
  rw [← foldl_wr' v.cells off cs]

/-- A composite, field by field. -/
def fillF (pl : List (Nat × Nat)) (cs : List FV) : List (Nat × FV) → Option (List FV)
  | [] => some cs
  | (i, v) :: r => match pl[i]? with
    | some (off, size) => match v.plain && Nat.beq v.cells.length size && Nat.ble (off + size) cs.length with
      | true => fillF pl (wrF cs off v.cells) r
      | false => none
    | none => none

theorem fillF_ok {Z : Ctx} {pl : List (Nat × Nat)} {place : Nat → Option (Nat × Nat)} (hpl : ∀ i, place i = pl[i]?) : ∀ (parts : List (Nat × FV)) (parts' : List (Nat × Value)) (cs : List FV) (vs : Array Value) (out : List FV),
    fillF pl cs parts = some out → VRs Z cs vs → parts'.length = parts.length → (∀ i, i < parts.length → (parts'.getD i (0, undef)).1 = (parts.getD i (0, .und)).1 ∧ VR Z (parts.getD i (0, .und)).2 (parts'.getD i (0, undef)).2) →
    ∃ vs', Instr.fill place vs parts' = some vs' ∧ VRs Z out vs'
  | [], [], cs, vs, out, h, hr, _, _ => by simp [fillF] at h; subst h; exact ⟨vs, rfl, hr⟩
  | [], _ :: _, _, _, _, _, _, hl, _ => by simp at hl
  | _ :: _, [], _, _, _, _, _, hl, _ => by simp at hl
  | (i, v) :: r, (i', v') :: r', cs, vs, out, h, hr, hl, hg => by
    have h0 := hg 0 (by simp)
    simp at h0
    obtain ⟨rfl, hv⟩ := h0
    simp only [fillF] at h
    cases hp : pl[i']? with
    | none => simp [hp] at h
    | some q =>
      obtain ⟨off, size⟩ := q
      simp only [hp] at h
      cases hb : (v.plain && Nat.beq v.cells.length size && Nat.ble (off + size) cs.length) with
      | false => rw [hb] at h; cases h
      | true =>
        rw [hb] at h
        simp only [Bool.and_eq_true] at hb
        obtain ⟨⟨b1, b2⟩, b3⟩ := hb
        have e2 : v.cells.length = size := Nat.eq_of_beq_eq_true b2
        have e3 : off + size ≤ cs.length := Nat.le_of_ble_eq_true b3
        obtain ⟨hc, _⟩ := hv.plainCells b1
        have hsz : v'.cells.size = size := by rw [hc.len, e2]
        rw [fill_cons ((hpl i').trans hp) hsz (by rw [hsz, hr.len]; exact e3)]
        refine fillF_ok hpl r r' _ _ out h (hr.write (by simpa using hc) (by rw [e2]; exact e3)) (by simpa using hl) (fun j hj => ?_)
        have := hg (j + 1) (by simpa using hj)
        simpa using this

def placesOf (P : Program) (t : TypeId) : Option (List (Nat × Nat)) :=
  match P.underlying t with
  | some (.struct fields) => fields.toList.mapM (fun f => (P.info? f.type).map fun i => (f.offset, i.size))
  | _ => none

def zeroOf (P : Program) (t : TypeId) : Option Value := (P.info? t).bind (·.zero)

/-- The values of parts. -/
def pvals (ρ : Operand → TV) : List (Nat × Operand) → Option (List (Nat × FV))
  | [] => some []
  | (i, y) :: r => match ρ y, pvals ρ r with
    | .v x, some l => some ((i, x) :: l)
    | _, _ => none

theorem pvals_ok {Z : Ctx} {β : Nat → Nat} {ρ : Operand → TV} {ρ' : Operand → Value} : ∀ {l : List (Nat × Operand)} {xs : List (Nat × FV)}, pvals ρ l = some xs → (∀ p, p ∈ l → TVR Z β (ρ p.2) (ρ' p.2)) →
    (l.map fun p => (p.1, ρ' p.2)).length = xs.length ∧ ∀ i, i < xs.length → ((l.map fun p => (p.1, ρ' p.2)).getD i (0, undef)).1 = (xs.getD i (0, .und)).1 ∧ VR Z (xs.getD i (0, .und)).2 ((l.map fun p => (p.1, ρ' p.2)).getD i (0, undef)).2
  | [], xs, h, _ => by simp [pvals] at h; subst h; exact ⟨rfl, fun i hi => by simp at hi⟩
  | (k, y) :: r, xs, h, hr => by
    simp only [pvals] at h
    cases hy : ρ y with
    | loc s p => simp [hy] at h
    | v x =>
      cases hrest : pvals ρ r with
      | none => simp [hy, hrest] at h
      | some l =>
        simp only [hy, hrest, Option.some.injEq] at h
        subst h
        obtain ⟨ih1, ih2⟩ := pvals_ok hrest (fun z hz => hr z (by simp [hz]))
        have h0 := hr (k, y) (by simp)
        rw [hy] at h0
        refine ⟨by simpa using ih1, fun i hi => ?_⟩
        cases i with
        | zero => exact ⟨by simp, h0⟩
        | succ i =>
          have := ih2 i (by simpa using hi)
          simpa using this

section ops
variable {P : Program} {o : Oper} {ρ : Operand → TV}

theorem mem_parts_operands {parts : Array (Nat × Operand)} {p : Nat × Operand} (h : p ∈ parts.toList) : p.2 ∈ ((parts.toList.map (·.2)).toArray) := by
  simp; exact ⟨p.1, by simpa using h⟩

theorem PR_build {t : TypeId} {parts : Array (Nat × Operand)} {z : Value} {pl : List (Nat × Nat)} {xs : List (Nat × FV)} {out : List FV} (ho : o.op = .build t parts) (hz : zeroOf P t = some z) (hpl : placesOf P t = some pl)
    (hx : pvals ρ parts.toList = some xs) (hzc : (ofC z).plain = true) (hf : fillF pl (ofC z).cells xs = some out) : PR P o ρ (.v (.agg out)) := PR.of fun Z w β ρ' _ hr => by
  obtain ⟨h1, h2⟩ := pvals_ok (Z := Z) (β := β) (ρ' := ρ') hx (fun p hp => hr p.2 (by simp only [ho, Op.operands]; exact mem_parts_operands hp))
  have hzr := ((VR.ofC Z z).plainCells hzc).1
  unfold zeroOf at hz
  unfold placesOf at hpl
  cases hit : P.info? t with
  | none => simp [hit] at hz
  | some it =>
    have hz' : it.zero = some z := by simpa [hit] using hz
    split at hpl
    · rename_i fields hu
      obtain ⟨vs', hfill, hout⟩ := fillF_ok (Z := Z) (pl := pl) (place := (pl.toArray[·]?)) (fun i => by simp) xs _ _ _ out hf hzr h1 h2
      refine ⟨.agg vs', ?_, VR.agg' hout⟩
      have hb : P.built t (parts.map fun (i, x) => (i, ρ' x)).toList = some vs' := by
        unfold Program.built
        simp only [hit, hu, hz', hpl]
        rw [← hfill]
        simp
      have := run_build (P := P) w t (parts.map fun (i, x) => (i, ρ' x)) vs' hb
      simp [execOp, ho, this]
    · cases hpl

/-- The elements of a slice that is written out. -/
def fillE (sz : Nat) (es : List (List FV)) : List (Nat × FV) → Option (List (List FV))
  | [] => some es
  | (i, v) :: r => match v.plain && Nat.beq v.cells.length sz && Nat.blt i es.length with
    | true => fillE sz (es.set i v.cells) r
    | false => none

structure Rows (Z : Ctx) (sz : Nat) (es : List (List FV)) (vs : Array Value) : Prop where
  size : vs.size = es.length * sz
  len : ∀ e, e ∈ es → e.length = sz
  get : ∀ i j, i < es.length → j < sz → VR Z ((es.getD i []).getD j .und) (vs.getD (i * sz + j) undef)

theorem row_lt {n sz i j : Nat} (hi : i < n) (hj : j < sz) : i * sz + j < n * sz := by
  have : (i + 1) * sz ≤ n * sz := Nat.mul_le_mul_right sz hi
  rw [Nat.add_mul] at this; omega

theorem row_eq {sz a b i j : Nat} (hi : i < sz) (hj : j < sz) (h : a * sz + i = b * sz + j) : a = b := by
  have hz : 0 < sz := by omega
  have h1 : (a * sz + i) / sz = a := by rw [Nat.mul_comm, Nat.mul_add_div hz, Nat.div_eq_of_lt hi]; omega
  have h2 : (b * sz + j) / sz = b := by rw [Nat.mul_comm, Nat.mul_add_div hz, Nat.div_eq_of_lt hj]; omega
  rw [← h1, ← h2, h]

theorem Rows.set {Z : Ctx} {sz : Nat} {es : List (List FV)} {vs : Array Value} (h : Rows Z sz es vs) {k : Nat} {l : List FV} {us : List Value} (hk : k < es.length) (hl : VRs Z l us.toArray) (hsz : l.length = sz) :
    Rows Z sz (es.set k l) (wr vs (k * sz) us) := by
  have hlen : us.length = sz := by have := hl.len; simp at this; omega
  have hfit : k * sz + us.length ≤ vs.size := by
    rw [h.size, hlen]
    have : (k + 1) * sz ≤ es.length * sz := Nat.mul_le_mul_right sz hk
    rw [Nat.add_mul] at this; omega
  refine ⟨by rw [wr_size, h.size]; simp, fun e he => ?_, fun i j hi hj => ?_⟩
  · rcases List.mem_or_eq_of_mem_set he with he | he
    · exact h.len e he
    · subst he; exact hsz
  · simp at hi
    rw [wr_get _ _ _ _ hfit, hlen]
    by_cases hik : i = k
    · subst hik
      rw [if_pos (by omega)]
      have := hl.get j (by omega)
      have e1 : ((es.set i l).getD i []) = l := by simp [List.getD, hi]
      have e2 : us.toArray.getD j undef = us.getD (i * sz + j - i * sz) undef := by
        simp [Array.getD, List.getD, show j < us.length by omega]
      rw [e1, ← e2]; exact this
    · rw [if_neg]
      · have e1 : ((es.set k l).getD i []) = es.getD i [] := by simp [List.getD, List.getElem?_set_ne (Ne.symm hik)]
        rw [e1]; exact h.get i j hi hj
      · rintro ⟨h1, h2⟩
        apply hik
        have : ∃ d, d < sz ∧ i * sz + j = k * sz + d := ⟨i * sz + j - k * sz, by omega, by omega⟩
        obtain ⟨d, hd, e⟩ := this
        exact row_eq hj hd e

theorem fillE_ok {Z : Ctx} {sz : Nat} : ∀ (parts : List (Nat × FV)) (parts' : List (Nat × Value)) (es : List (List FV)) (vs : Array Value) (out : List (List FV)),
    fillE sz es parts = some out → Rows Z sz es vs → parts'.length = parts.length → (∀ i, i < parts.length → (parts'.getD i (0, undef)).1 = (parts.getD i (0, .und)).1 ∧ VR Z (parts.getD i (0, .und)).2 (parts'.getD i (0, undef)).2) →
    ∃ vs', Instr.fill (fun i => some (i * sz, sz)) vs parts' = some vs' ∧ Rows Z sz out vs' ∧ out.length = es.length
  | [], [], es, vs, out, h, hr, _, _ => by simp [fillE] at h; subst h; exact ⟨vs, rfl, hr, rfl⟩
  | [], _ :: _, _, _, _, _, _, hl, _ => by simp at hl
  | _ :: _, [], _, _, _, _, _, hl, _ => by simp at hl
  | (i, v) :: r, (i', v') :: r', es, vs, out, h, hr, hl, hg => by
    have h0 := hg 0 (by simp)
    simp at h0
    obtain ⟨rfl, hv⟩ := h0
    simp only [fillE] at h
    cases hb : (v.plain && Nat.beq v.cells.length sz && Nat.blt i' es.length) with
    | false => rw [hb] at h; cases h
    | true =>
      rw [hb] at h
      simp only [Bool.and_eq_true] at hb
      obtain ⟨⟨b1, b2⟩, b3⟩ := hb
      have e2 : v.cells.length = sz := Nat.eq_of_beq_eq_true b2
      have e3 : i' < es.length := by simpa [Nat.blt_eq] using b3
      obtain ⟨hc, _⟩ := hv.plainCells b1
      have hsz : v'.cells.size = sz := by rw [hc.len, e2]
      have hfit : i' * sz + v'.cells.size ≤ vs.size := by
        rw [hr.size, hsz]
        have : (i' + 1) * sz ≤ es.length * sz := Nat.mul_le_mul_right sz e3
        rw [Nat.add_mul] at this; omega
      rw [fill_cons (place := fun i => some (i * sz, sz)) rfl hsz hfit]
      obtain ⟨vs', g1, g2, g3⟩ := fillE_ok r r' _ _ out h (hr.set (us := v'.cells.toList) e3 (by rw [Array.toArray_toList]; exact hc) e2) (by simpa using hl) (fun j hj => by
        have := hg (j + 1) (by simpa using hj)
        simpa using this)
      exact ⟨vs', g1, g2, by simpa using g3⟩

theorem zeroRows {Z : Ctx} {sz n : Nat} {zs : List FV} {zv : Array Value} (hz : VRs Z zs zv) (hl : zs.length = sz) :
    Rows Z sz (List.replicate n zs) ((Array.range (n * sz)).map (zv[· % zv.size]!)) := by
  refine ⟨by simp, fun e he => by rw [List.eq_of_mem_replicate he]; exact hl, fun i j hi hj => ?_⟩
  simp at hi
  have hlt := row_lt hi hj
  have e1 : (List.replicate n zs).getD i [] = zs := by simp [List.getD, hi]
  have hsz : zv.size = sz := by rw [hz.len, hl]
  have e2 : ((Array.range (n * sz)).map (zv[· % zv.size]!)).getD (i * sz + j) undef = zv.getD j undef := by
    have hj' : j < zv.size := by omega
    have hm : (i * sz + j) % zv.size = j := by rw [hsz, Nat.mul_comm, Nat.mul_add_mod, Nat.mod_eq_of_lt hj]
    simp [Array.getD, hlt, hm, hj']
  rw [e1, e2]
  exact hz.get j (by omega)

theorem PR_buildSlice {t : TypeId} {n : Nat} {parts : Array (Nat × Operand)} {z : Value} {sz : Nat} {xs : List (Nat × FV)} {out : List (List FV)} (ho : o.op = .buildSlice t n parts) (ht : kdOf P t = 5)
    (hz : zeroOf P (elOf P t) = some z) (hs : eszOf P t = some sz) (hx : pvals ρ parts.toList = some xs) (hzc : (ofC z).plain = true) (hzl : (ofC z).cells.length = sz)
    (hn : n * sz ≤ 16777216) (hsz : 0 < sz) (hf : fillE sz (List.replicate n (ofC z).cells) xs = some out) : PR P o ρ (.v (.slx sz out)) := fun Z w L β ρ' hh hr => by
  obtain ⟨h1, h2⟩ := pvals_ok (Z := Z) (β := β) (ρ' := ρ') hx (fun p hp => hr p.2 (by simp only [ho, Op.operands]; exact mem_parts_operands hp))
  have hzr := ((VR.ofC Z z).plainCells hzc).1
  obtain ⟨vs', hfill, hrows, hlen⟩ := fillE_ok (Z := Z) (sz := sz) xs _ _ _ out hf (zeroRows (n := n) hzr hzl) h1 h2
  have hrun : (execOp ρ' o).run P w = .ok (.value (.slice (some ⟨w.heap.size, 0, none⟩) n n)) (w.alloc (.cells vs' (elOf P t))) := by
    have hzv : (zeroValue (elOf P t)).run P w = .ok z w := by
      unfold zeroOf at hz
      cases hit : P.info? (elOf P t) with
      | none => simp [hit] at hz
      | some it =>
        have : it.zero = some z := by simpa [hit] using hz
        simp [zeroValue, typeInfo, hit, this]
    have hfill' : Instr.fill (fun i => some (i * sz, sz)) (Array.map (fun x => (if n * sz = 0 then #[] else z.cells)[x % (if n * sz = 0 then (#[] : Array Value) else z.cells).size]!) (Array.range (n * sz))) (Array.map (fun (x : Nat × Operand) => (x.1, ρ' x.2)) parts).toList = some vs' := by
      rw [← hfill]
      by_cases h0 : n * sz = 0
      · have e : ∀ f g : Nat → Value, Array.map f (Array.range (n * sz)) = Array.map g (Array.range (n * sz)) := by intro f g; rw [h0, Array.range_zero']; simp
        rw [e _ (fun x => z.cells[x % z.cells.size]!)]
        congr 1
        simp
      · simp [h0]
    by_cases h0 : n * sz = 0
    · simp [execOp, ho, Instr.buildSlice, run_underlying (und_slice ht), run_sizeOf w hs, h0]
      simp [h0] at hfill'
      simp [hfill', newRow]
    · simp [execOp, ho, Instr.buildSlice, run_underlying (und_slice ht), run_sizeOf w hs, show ¬ (n * sz > 2 ^ 24) by omega, h0, hzv]
      simp [h0] at hfill'
      simp [hfill', newRow]
  have hol : out.length = n := by simpa using hlen
  have hnB : out.length < LB := by
    rw [hol]; unfold LB
    have : n * 1 ≤ n * sz := Nat.mul_le_mul_left n hsz
    omega
  refine ⟨_, _, Z.know w.heap.size vs'.size vs'.size vs', hrun, Ctx.le_know hh _ _ _, hh.allocKnown vs' (elOf P t) vs'.size (Nat.le_refl _), ?_⟩
  have hle := Ctx.le_know hh vs'.size vs'.size vs'
  have := VR.slx (Z := Z.know w.heap.size vs'.size vs'.size vs') sz out w.heap.size 0 (fun i => vs'.getD i undef) hrows.len
    (fun i hi => by rw [Nat.zero_add]; exact Ctx.know_cell (by rw [hrows.size]; exact hi)) (fun i j hi hj => (hrows.get i j hi hj).mono hle) hnB
  rw [hol] at this
  exact ⟨this, rfl⟩

end ops
end Go.Fs

namespace Go.Fs
open Go

def getB : List (Nat × List FV) → Nat → Option (List FV)
  | [], _ => none
  | (k, c) :: r, s => bif Nat.beq k s then some c else getB r s

def setB : List (Nat × List FV) → Nat → List FV → List (Nat × List FV)
  | [], _, _ => []
  | (k, c) :: r, s, d => bif Nat.beq k s then (k, d) :: r else (k, c) :: setB r s d

def hasB : List (Nat × List FV) → Nat → Bool
  | [], _ => false
  | (k, _) :: r, s => Nat.beq k s || hasB r s

theorem getB_split : ∀ {B : List (Nat × List FV)} {s : Nat} {c : List FV}, getB B s = some c → ∃ B1 B2, B = B1 ++ (s, c) :: B2 ∧ ∀ d, setB B s d = B1 ++ (s, d) :: B2
  | [], _, _, h => by simp [getB] at h
  | (k, c') :: r, s, c, h => by
    simp only [getB] at h
    cases hb : Nat.beq k s with
    | true =>
      have e : k = s := Nat.eq_of_beq_eq_true hb
      simp [hb] at h
      subst h; subst e
      exact ⟨[], r, rfl, fun d => by simp [setB]⟩
    | false =>
      simp only [hb, cond_false] at h
      obtain ⟨B1, B2, e1, e2⟩ := getB_split h
      exact ⟨(k, c') :: B1, B2, by simp [e1], fun d => by simp [setB, hb, e2]⟩

theorem hasB_false : ∀ {B : List (Nat × List FV)} {s : Nat}, hasB B s = false → ∀ p, p ∈ B → p.1 ≠ s
  | [], _, _, p, hp => by simp at hp
  | (k, c) :: r, s, h, p, hp => by
    simp only [hasB, Bool.or_eq_false_iff] at h
    rcases List.mem_cons.1 hp with rfl | hp
    · intro e
      have e' : k = s := e
      subst e'
      have := h.1
      simp at this
    · exact hasB_false h.2 p hp

structure CallOf' (o : Oper) (E : Nat → TV) (f : FuncId) (args : List FV) : Prop where
  ex : ∃ (c : Call) (fo : Operand) (caps as : List FV), o.op = .call c ∧ c.callee = .value fo ∧ ev E fo = .v (.fn f caps) ∧ vals (ev E) c.args.toList = some as ∧ args = as ++ caps

/-- No slot points into the box of slot s. -/
def NoLoc (E : Nat → TV) (s : Nat) : Prop := ∀ i p, E i ≠ .loc s p

inductive Fop (P : Program) (o : Oper) (S : St) (K : St → Prop) : Prop where
  | pure (x : TV) (hd : dstOK S.n o.dst = true) (h : PR P o (ev S.E) x) (k : K (S.put o.dst x))
  | ret (f : FuncId) (args : List FV) (x : FV) (hd : dstOK S.n o.dst = true) (hc : CallOf' o S.E f args) (h : Ret P f args x) (k : K (S.put o.dst (.v x)))
  | alloc (s : Nat) (t : TypeId) (z : Value) (ho : o.op = .alloc t) (hs : o.dst = some s) (hd : Nat.blt s S.n = true) (hz : zeroOf P t = some z) (hp : (ofC z).plain = true)
      (hl : NoLoc S.E s) (hb : hasB S.B s = false) (k : K ({ S with B := (s, (ofC z).cells) :: S.B }.put (some s) (.loc s 0)))
  | box (s : Nat) (t : TypeId) (y : Operand) (x : FV) (ho : o.op = .box t y) (hs : o.dst = some s) (hd : Nat.blt s S.n = true) (hy : ev S.E y = .v x) (hp : x.plain = true)
      (hl : NoLoc S.E s) (hb : hasB S.B s = false) (k : K ({ S with B := (s, x.cells) :: S.B }.put (some s) (.loc s 0)))
  | loadB (t : TypeId) (y : Operand) (s p n : Nat) (cs : List FV) (x : FV) (ho : o.op = .load t y) (hd : dstOK S.n o.dst = true) (hy : ev S.E y = .loc s p) (hc : getB S.B s = some cs)
      (hh : tyHas P t = true) (hn : tySize P t = some n) (hx : ldv (tyAgg P t) n cs p = some x) (k : K (S.put o.dst (.v x)))
  | storeB (t : TypeId) (y z : Operand) (s p n : Nat) (cs : List FV) (x : FV) (ho : o.op = .store t y z) (hd : o.dst = none) (hy : ev S.E y = .loc s p) (hz : ev S.E z = .v x) (hc : getB S.B s = some cs)
      (hp : x.plain = true) (hn : tySize P t = some n) (hl : x.cells.length = n) (hfit : p + n ≤ cs.length) (k : K { S with B := setB S.B s (wrF cs p x.cells) })
  | hread (x : FV) (hd : dstOK S.n o.dst = true) (h : HR P o (ev S.E) S.H fun y H' => y = x ∧ H' = S.H) (k : K (S.put o.dst (.v x)))
  | hop (Post : FV → Heap → Prop) (hd : dstOK S.n o.dst = true) (h : HR P o (ev S.E) S.H Post) (k : ∀ x H', Post x H' → K ({ S with H := H' }.put o.dst (.v x)))
  | call (f : FuncId) (args : List FV) (H1 R : Heap) (Post : FV → Heap → Prop) (hd : dstOK S.n o.dst = true) (hc : CallOf' o S.E f args) (hp : S.H.Perm (H1 ++ R)) (h : FCall P f args H1 Post)
      (k : ∀ x H', Post x H' → K ({ S with H := H' ++ R }.put o.dst (.v x)))

theorem Fop.monoK {P : Program} {o : Oper} {S : St} {K K' : St → Prop} (hk : ∀ S', K S' → K' S') (h : Fop P o S K) : Fop P o S K' := by
  cases h with
  | pure x hd h k => exact .pure x hd h (hk _ k)
  | ret f args x hd hc h k => exact .ret f args x hd hc h (hk _ k)
  | alloc s t z ho hs hd hz hp hl hb k => exact .alloc s t z ho hs hd hz hp hl hb (hk _ k)
  | box s t y x ho hs hd hy hp hl hb k => exact .box s t y x ho hs hd hy hp hl hb (hk _ k)
  | loadB t y s p n cs x ho hd hy hc hh hn hx k => exact .loadB t y s p n cs x ho hd hy hc hh hn hx (hk _ k)
  | storeB t y z s p n cs x ho hd hy hz hc hp hn hl hfit k => exact .storeB t y z s p n cs x ho hd hy hz hc hp hn hl hfit (hk _ k)
  | hread x hd h k => exact .hread x hd h (hk _ k)
  | hop Post hd h k => exact .hop Post hd h fun x H' p => hk _ (k x H' p)
  | call f args H1 R Post hd hc hp h k => exact .call f args H1 R Post hd hc hp h fun x H' p => hk _ (k x H' p)

/-- What holds of the machine where the state has become one of K. -/
def CK (K : St → Prop) (Z : Ctx) (F : Heap) (a : Act) (w : World) : Prop := ∃ Z' β' S', Ctx.le Z Z' ∧ Rel Z' w F β' S' a ∧ K S'

theorem boxes_append (β : Nat → Nat) (A B : List (Nat × List FV)) : boxes β (A ++ B) = boxes β A ++ boxes β B := by simp [boxes]

/-- A frame's own box, at the head of what is owned. -/
theorem Rel.boxHead {Z : Ctx} {w : World} {F : Heap} {β : Nat → Nat} {S : St} {a : Act} (r : Rel Z w F β S a) {s : Nat} {cs : List FV} (h : getB S.B s = some cs) :
    ∃ L, HeapOK Z w ((β s, .cells cs) :: L) ∧ ∀ d, ((β s, FObj.cells d) :: L).Perm (S.H ++ (boxes β (setB S.B s d) ++ F)) := by
  obtain ⟨B1, B2, e1, e2⟩ := getB_split h
  have hp : ∀ d, ((β s, FObj.cells d) :: (S.H ++ (boxes β B1 ++ (boxes β B2 ++ F)))).Perm (S.H ++ (boxes β (B1 ++ (s, d) :: B2) ++ F)) := fun d => by
    rw [boxes_append]
    have e : (boxes β ((s, d) :: B2)) = (β s, FObj.cells d) :: boxes β B2 := rfl
    rw [e]
    have := (List.perm_middle (a := (β s, FObj.cells d)) (l₁ := S.H ++ boxes β B1) (l₂ := boxes β B2 ++ F)).symm
    simpa using this
  refine ⟨S.H ++ (boxes β B1 ++ (boxes β B2 ++ F)), ?_, fun d => by rw [e2]; exact hp d⟩
  have := r.heap
  rw [e1] at this
  exact this.perm (hp cs).symm

theorem boxes_upd (β : Nat → Nat) (s b : Nat) (B : List (Nat × List FV)) (h : ∀ p, p ∈ B → p.1 ≠ s) : boxes (fun i => if i = s then b else β i) B = boxes β B := by
  unfold boxes
  apply List.map_congr_left
  intro p hp
  simp [h p hp]

theorem Rel.newBox {Z : Ctx} {w : World} {F : Heap} {β : Nat → Nat} {S : St} {a : Act} (r : Rel Z w F β S a) {s : Nat} {cs : List FV} {vs : Array Value} {t : TypeId}
    (hd : Nat.blt s S.n = true) (hl : NoLoc S.E s) (hb : hasB S.B s = false) (hv : VRs Z cs vs) :
    Rel Z (w.alloc (.cells vs t)) F (fun i => if i = s then w.heap.size else β i) ({ S with B := (s, cs) :: S.B }.put (some s) (.loc s 0)) (a.put (some s) (.pointer (some ⟨w.heap.size, 0, none⟩))) := by
  have hh := r.heap.alloc (x := .cells vs t) (p := (w.heap.size, .cells cs)) rfl ⟨vs, t, (0, 0), rfl, fun i _ => by simp, r.heap.cell_new, hv⟩
  refine Rel.put (S := { S with B := (s, cs) :: S.B }) ⟨r.defers, r.size, ?_, fun i => ?_⟩ (by simpa [dstOK] using hd) (by show _ = _; simp)
  · have e : boxes (fun i => if i = s then w.heap.size else β i) ((s, cs) :: S.B) = (w.heap.size, FObj.cells cs) :: boxes β S.B := by
      show (_ :: _) = _
      congr 1
      · simp
      · exact boxes_upd β s _ S.B (hasB_false hb)
    show HeapOK Z _ (S.H ++ (boxes _ ((s, cs) :: S.B) ++ F))
    rw [e]
    exact hh.perm (by
      have := (List.perm_middle (a := (w.heap.size, FObj.cells cs)) (l₁ := S.H) (l₂ := boxes β S.B ++ F)).symm
      simpa using this)
  · have := r.env i
    show TVR Z _ (S.E i) _
    cases hE : S.E i with
    | v x => rw [hE] at this; exact this
    | loc s' p =>
      rw [hE] at this
      have hne : s' ≠ s := fun e => hl i p (by rw [hE, e])
      show _ = _
      simp only [if_neg hne]
      exact this

theorem zeroOf_run {P : Program} {t : TypeId} {z : Value} (h : zeroOf P t = some z) (w : World) : (zeroValue t).run P w = .ok z w := by
  unfold zeroOf at h
  cases hit : P.info? t with
  | none => simp [hit] at h
  | some it =>
    have : it.zero = some z := by simpa [hit] using h
    simp [zeroValue, typeInfo, hit, this]

theorem call_run {P : Program} {o : Oper} {Z : Ctx} {w : World} {F : Heap} {β : Nat → Nat} {S : St} {a : Act} (r : Rel Z w F β S a) {f : FuncId} {args : List FV}
    (hc : CallOf' o S.E f args) (he : Ent P f) : ∃ vs, (execOp a.eval o).run P w = .ok (.enter f vs) w ∧ VRs Z args vs := by
  obtain ⟨c, fo, caps, as, ho, hcal, hfo, has, rfl⟩ := hc.ex
  obtain ⟨fn, hfn, hname, hbody⟩ := he
  have h1 := r.ev fo
  rw [hfo] at h1
  have h2 := vals_ok (Z := Z) (β := β) (ρ' := a.eval) has (fun y _ => r.ev y)
  have e : (c.args.toList.map a.eval).toArray = c.args.map a.eval := by apply Array.ext'; simp
  rw [e] at h2
  generalize hv : a.eval fo = v at h1
  cases h1 with
  | fn f cs vs hl hvs =>
    refine ⟨c.args.map a.eval ++ vs, ?_, ?_, ?_⟩
    · simp only [execOp, ho, resolve, hcal, hv, Deferred.ofValue]
      have hname' : ¬ fn.name = "runtime.NumGoroutine" := by simpa using hname
      have hbody' : ¬ fn.body = none := fun e => by rw [e] at hbody; simp at hbody
      simp [invoke, callFunc, hfn, hname', hbody']
    · have := h2.len
      simp at this ⊢; omega
    · intro i hi
      have hl1 := h2.len
      simp at hi
      by_cases hi1 : i < as.length
      · have := h2.get i hi1
        have e1 : (as ++ caps).getD i .und = as.getD i .und := by simp [List.getD, List.getElem?_append_left hi1]
        have e2 : (c.args.map a.eval ++ vs).getD i undef = (c.args.map a.eval).getD i undef := by
          simp only [Array.getD_eq_getD_getElem?]
          rw [Array.getElem?_append_left (by rw [hl1]; exact hi1)]
        rw [e1, e2]; exact this
      · have := hvs (i - as.length) (by omega)
        have e1 : (as ++ caps).getD i .und = caps.getD (i - as.length) .und := by simp [List.getD, List.getElem?_append_right (by omega : as.length ≤ i)]
        have e2 : (c.args.map a.eval ++ vs).getD i undef = vs.getD (i - as.length) undef := by
          simp only [Array.getD_eq_getD_getElem?]
          rw [Array.getElem?_append_right (by rw [hl1]; omega), hl1]
        rw [e1, e2]; exact this

/-- THE MACHINE'S OPERATION DOES WHAT THE STATE SAYS. -/
theorem Fop.sound {P : Program} {o : Oper} {S : St} {K : St → Prop} (h : Fop P o S K) {Z : Ctx} {w : World} {F : Heap} {β : Nat → Nat} {a : Act} (r : Rel Z w F β S a) (Q : Exit → Act → World → Prop) :
    o.wp P a w (CK K Z F) Q := by
  unfold Oper.wp
  cases h with
  | pure x hd h k =>
    obtain ⟨v, w', Z', h1, h2, h3, h4, _⟩ := h Z w _ β a.eval r.heap (fun y _ => r.ev y)
    rw [h1, Oper.upon_value]
    have r' : Rel Z' w' F β S a := r.mono h2 h3
    exact ⟨Z', β, _, h2, r'.put hd h4, k⟩
  | ret f args x hd hc h k =>
    obtain ⟨vs, h1, h2⟩ := call_run r hc h.1
    rw [h1, Oper.upon_enter]
    refine (h.2 Z w (S.H ++ (boxes β S.B ++ F)) vs h2 (by simpa using r.heap)).mono ?_
    rintro e w' ⟨y, H', v, Z', rfl, hz, hh, hv, rfl, rfl⟩
    exact ⟨Z', β, _, hz, (r.mono hz (by simpa using hh)).put (x := .v _) hd hv, k⟩
  | alloc s t z ho hs hd hz hp hl hb k =>
    have hzr := ((VR.ofC Z z).plainCells hp).1
    have h1 : (execOp a.eval o).run P w = .ok (.value (.pointer (some ⟨w.heap.size, 0, none⟩))) (w.alloc (.cells z.cells t)) := by
      simp [execOp, ho, Instr.alloc, zeroOf_run hz, newVar, newRow]
    rw [h1, Oper.upon_value, hs]
    exact ⟨Z, _, _, Ctx.le.refl Z, r.newBox hd hl hb hzr, k⟩
  | box s t y x ho hs hd hy hp hl hb k =>
    have h0 := r.ev y
    rw [hy] at h0
    have hzr := (VR.plainCells h0 hp).1
    have h1 : (execOp a.eval o).run P w = .ok (.value (.pointer (some ⟨w.heap.size, 0, none⟩))) (w.alloc (.cells (a.eval y).cells t)) := by
      simp [execOp, ho, Instr.box, newVar, newRow]
    rw [h1, Oper.upon_value, hs]
    exact ⟨Z, _, _, Ctx.le.refl Z, r.newBox hd hl hb hzr, k⟩
  | loadB t y s p n cs x ho hd hy hc hh hn hx k =>
    have h0 := r.ev y
    rw [hy] at h0
    have h0' : a.eval y = .pointer (some ⟨β s, p, none⟩) := h0
    obtain ⟨L, hL, _⟩ := r.boxHead hc
    obtain ⟨vs, ty, fr, hb, hf, hn', hv⟩ := hL.obj _ (List.mem_cons_self)
    obtain ⟨u, hu, hxu⟩ := load_ok (P := P) (t := t) (n := n) (Z := Z) (w := w) (b := β s) (o := 0) (off := p) (cs := cs) (x := x) (fun i => vs.getD i undef) hh hn
      (fun i hi => ⟨by rw [cell_of hb, Nat.zero_add]; simp [Array.getD, show i < vs.size by rw [hv.len]; exact hi], hv.get i hi⟩) hx
    have h1 : (execOp a.eval o).run P w = .ok (.value u) w := by
      simp only [Nat.zero_add] at hu
      simp [execOp, ho, h0', Instr.loadAt, Instr.sureAddr, hu]
    rw [h1, Oper.upon_value]
    exact ⟨Z, β, _, Ctx.le.refl Z, r.put (x := .v x) hd hxu, k⟩
  | storeB t y z s p n cs x ho hd hy hz hc hp hn hl hfit k =>
    have h0 := r.ev y
    rw [hy] at h0
    have h0' : a.eval y = .pointer (some ⟨β s, p, none⟩) := h0
    have hx := r.ev z
    rw [hz] at hx
    obtain ⟨hxc, hone⟩ := VR.plainCells hx hp
    obtain ⟨L, hL, hperm⟩ := r.boxHead hc
    obtain ⟨vs, ty, fr, hb, hf, hnone, hv⟩ := hL.obj _ (List.mem_cons_self)
    have hsz : (a.eval z).cells.size = n := by rw [hxc.len, hl]
    have hst := storeCells_ok (P := P) (β s) p ty fr (a.eval z).cells.toList 0 vs w hb (by simp [hsz, hv.len]; omega) hf hone
    have h1 : (execOp a.eval o).run P w = .ok .skip (World.setBlk w (β s) (.cells (wr vs p (a.eval z).cells.toList) ty fr)) := by
      simp only [Nat.add_zero] at hst
      simp [execOp, ho, h0', Instr.storeAt, Instr.sureAddr, storeVar, run_sizeOf w hn, hsz, hst]
    rw [h1, Oper.upon_skip, hd]
    have hv' : VRs Z (wrF cs p x.cells) (wr vs p (a.eval z).cells.toList) := hv.write (by simpa using hxc) (by rw [hl]; exact hfit)
    have hnew := hL.modify (p' := (β s, .cells (wrF cs p x.cells))) rfl rfl (x := .cells (wr vs p (a.eval z).cells.toList) ty fr) (fun i v hi => by rw [hnone] at hi; cases hi)
      (fun m hm => by
        obtain ⟨vs2, ty2, fr2, hb2, hs2⟩ := hL.size _ _ hm
        have e := hb.symm.trans hb2
        simp at e
        exact ⟨_, _, _, rfl, by rw [wr_size, e.1]; exact hs2⟩)
      ⟨_, ty, fr, rfl, by rw [wr_size]; exact hf, hnone, hv'⟩
    refine ⟨Z, β, _, Ctx.le.refl Z, ?_, k⟩
    exact ⟨r.defers, r.size, hnew.perm (hperm _), r.env⟩
  | hread x hd h k =>
    obtain ⟨y, H', v, w', Z', h1, h2, h3, h4, rfl, rfl⟩ := h Z w (boxes β S.B ++ F) β a.eval r.heap (fun y _ => r.ev y)
    rcases h1 with h1 | ⟨h1, rfl⟩
    · rw [h1, Oper.upon_value]; exact ⟨Z', β, _, h2, (r.mono h2 h3).put (x := .v _) hd h4, k⟩
    · rw [h1, Oper.upon_skip]; exact ⟨Z', β, _, h2, (r.mono h2 h3).put (x := .v _) hd h4, k⟩
  | hop Post hd h k =>
    obtain ⟨y, H', v, w', Z', h1, h2, h3, h4, hp⟩ := h Z w (boxes β S.B ++ F) β a.eval r.heap (fun y _ => r.ev y)
    rcases h1 with h1 | ⟨h1, rfl⟩
    · rw [h1, Oper.upon_value]; exact ⟨Z', β, _, h2, (r.mono h2 h3).put (x := .v y) hd h4, k y H' hp⟩
    · rw [h1, Oper.upon_skip]; exact ⟨Z', β, _, h2, (r.mono h2 h3).put (x := .v y) hd h4, k y H' hp⟩
  | call f args H1 R Post hd hc hp h k =>
    obtain ⟨vs, h1, h2⟩ := call_run r hc h.1
    rw [h1, Oper.upon_enter]
    refine (h.2 Z w (R ++ (boxes β S.B ++ F)) vs h2 (r.heap.perm (by
      have := hp.append_right (boxes β S.B ++ F)
      simpa using this))).mono ?_
    rintro e w' ⟨y, H', v, Z', rfl, hz, hh, hv, hpost⟩
    exact ⟨Z', β, _, hz, (r.mono (H' := H' ++ R) hz (by simpa using hh)).put (x := .v y) hd hv, k y H' hpost⟩

end Go.Fs

namespace Go.Fs
open Go

theorem upon_mono {P : Program} {o : Oper} {a : Act} {n n' : Act → World → Prop} {Q : Exit → Act → World → Prop} (h : ∀ a w, n a w → n' a w) (r : Result Next) : o.upon P a n Q r → o.upon P a n' Q r := by
  intro hu
  unfold Oper.upon at hu ⊢
  split at hu
  · exact h _ _ hu
  · exact h _ _ hu
  · exact h _ _ hu
  · refine Calls.mono hu fun e w' he => ?_
    cases e with
    | returned v => exact h _ _ he
    | panicked c => exact he
    | outgrown => exact he
  · exact Rows.mono hu fun v w' hv => h _ _ hv
  · exact hu
  · exact hu.elim

/-- Is the operation carried out? none: not known. -/
def gd (ops : Array Oper) (o : Oper) (E : Nat → TV) : Option Bool :=
  match o.guard with
  | none => some true
  | some (j, want) => match (ops[j]?).bind (·.dst) with
    | some d => match E d with
      | .v (.bool b) => some (b == want)
      | _ => none
    | none => none

def WO (P : Program) (ops : Array Oper) : List Nat → (St → Prop) → St → Prop
  | [], K, S => K S
  | i :: l, K, S => match ops[i]? with
    | none => WO P ops l K S
    | some o => match gd ops o S.E with
      | some true => Fop P o S (WO P ops l K)
      | some false => dstOK S.n o.dst = true ∧ WO P ops l K (S.put o.dst (.v .und))
      | none => False

def QK (K : St → Prop) (Z : Ctx) (F : Heap) (e : Exit) (a : Act) (w : World) : Prop := e = .normal ∧ CK K Z F a w

theorem gd_ok {ops : Array Oper} {o : Oper} {S : St} {b : Bool} (h : gd ops o S.E = some b) {Z : Ctx} {w : World} {F : Heap} {β : Nat → Nat} {a : Act} (r : Rel Z w F β S a) : Region.wanted o (yielded ops a.tmps) = b := by
  unfold gd at h
  unfold Region.wanted
  cases hg : o.guard with
  | none =>
    simp only [hg, Option.some.injEq] at h
    exact h
  | some g =>
    obtain ⟨j, want⟩ := g
    simp only [hg] at h ⊢
    cases hd : (ops[j]?).bind (·.dst) with
    | none => simp [hd] at h
    | some d =>
      simp only [hd] at h
      cases hE : S.E d with
      | loc s p => simp [hE] at h
      | v x =>
        cases x <;> simp only [hE] at h <;> first | (cases h; done) | skip
        rename_i c
        have h0 := r.env d
        rw [hE] at h0
        have h1 := VR.bool_inv h0
        have hlt : d < a.tmps.size := by
          rcases Nat.lt_or_ge d a.tmps.size with h' | h'
          · exact h'
          · have e : a.tmps.getD d undef = undef := by simp [Array.getD, Nat.not_lt.2 h']
            rw [e] at h1
            cases h1
        have h2 : a.tmps[d]? = some (.bool c) := by
          simp [Array.getD, hlt] at h1
          simp [hlt, h1]
        simp only [yielded, hd, Option.bind_some, h2]
        cases h
        cases c <;> cases want <;> rfl

theorem WO.sound {P : Program} {ops : Array Oper} {K : St → Prop} {Z0 : Ctx} {F : Heap} : ∀ (l : List Nat) {S : St}, WO P ops l K S → ∀ {Z : Ctx} {w : World} {β : Nat → Nat} {a : Act}, Ctx.le Z0 Z → Rel Z w F β S a →
    wpOps P ops (QK K Z0 F) l a w
  | [], S, h, Z, w, β, a, hz, r => ⟨rfl, Z, β, S, hz, r, h⟩
  | i :: l, S, h, Z, w, β, a, hz, r => by
    simp only [WO] at h
    simp only [wpOps]
    cases ho : ops[i]? with
    | none =>
      simp only [ho] at h
      exact WO.sound l h hz r
    | some o =>
      simp only [ho] at h ⊢
      cases hg : gd ops o S.E with
      | none => simp [hg] at h
      | some b =>
        have hw := gd_ok hg r
        rw [hw]
        cases b with
        | true =>
          simp only [hg] at h
          refine Or.inl ?_
          have := h.sound r (QK K Z0 F)
          exact upon_mono (fun a' w' ⟨Z', β', S', hz', r', h'⟩ => WO.sound l h' (hz.trans hz') r') _ this
        | false =>
          simp only [hg] at h
          exact WO.sound l h.2 hz (r.put (x := .v .und) h.1 (VR.und undef))

/-- From here the frame comes to its return in a state of Ψ. -/
def SW (P : Program) (k : List Item) (Ψ : St → Prop) (S : St) : Prop :=
  ∀ (Z : Ctx) (w : World) (F : Heap) (β : Nat → Nat) (a : Act), Rel Z w F β S a → ∀ (b : Frame) (cs : List Frame),
    ∃ Z' w' β' S' a' todo, Ctx.le Z Z' ∧ Rel Z' w' F β' S' a' ∧ Ψ S' ∧ Steps P (lone (b.at a k) cs w) (lone { b.at a' todo with mode := .returning } cs w')

section rules
variable {P : Program} {k : List Item} {Ψ : St → Prop} {S : St}

theorem SW.of_step {k' : List Item} (hs : ∀ (b : Frame) (a : Act) (cs : List Frame) (w : World), step P (lone (b.at a k) cs w) = .next (lone (b.at a k') cs w)) (h : SW P k' Ψ S) : SW P k Ψ S :=
  fun Z w F β a r b cs => let ⟨Z', w', β', S', a', todo, h1, h2, h3, h4⟩ := h Z w F β a r b cs; ⟨Z', w', β', S', a', todo, h1, h2, h3, .head (hs b a cs w) h4⟩

theorem SW.nil (h : Ψ S) : SW P [] Ψ S := fun Z w _ β a r _ _ => ⟨Z, w, β, S, a, [], Ctx.le.refl Z, r, h, .one step_end⟩
theorem SW.ret (h : Ψ S) : SW P (.code .ret :: k) Ψ S := fun Z w _ β a r _ _ => ⟨Z, w, β, S, a, _, Ctx.le.refl Z, r, h, .one step_ret⟩
theorem SW.skip (h : SW P k Ψ S) : SW P (.code .skip :: k) Ψ S := SW.of_step (fun _ _ _ _ => step_skip) h
theorem SW.label {l : Nat} (h : SW P k Ψ S) : SW P (.code (.label l) :: k) Ψ S := SW.of_step (fun _ _ _ _ => step_label) h
theorem SW.inBlock {id : Nat} (h : SW P k Ψ S) : SW P (.inBlock id :: k) Ψ S := SW.of_step (fun _ _ _ _ => step_inBlock) h
theorem SW.seq {x y : Code} (h : SW P (.code x :: .code y :: k) Ψ S) : SW P (.code (.seq x y) :: k) Ψ S := SW.of_step (fun _ _ _ _ => step_seq) h
theorem SW.block {id : Nat} {c : Code} (h : SW P (.code c :: .inBlock id :: k) Ψ S) : SW P (.code (.block id c) :: k) Ψ S := SW.of_step (fun _ _ _ _ => step_block) h
theorem SW.loop0 {c : Code} (h : SW P (.code c :: .inLoop c :: k) Ψ S) : SW P (.code (.loop c) :: k) Ψ S := SW.of_step (fun _ _ _ _ => step_loop) h
theorem SW.inLoop {c : Code} (h : SW P (.code c :: .inLoop c :: k) Ψ S) : SW P (.inLoop c :: k) Ψ S := SW.of_step (fun _ _ _ _ => step_inLoop) h
theorem SW.exit {id : Nat} {k' : List Item} (hk : exitTo id k = some k') (h : SW P k' Ψ S) : SW P (.code (.exit id) :: k) Ψ S := SW.of_step (fun _ _ _ _ => step_exit hk) h
theorem SW.goto {l : Nat} {k' : List Item} (hk : gotoIn l k = some k') (h : SW P k' Ψ S) : SW P (.code (.goto l) :: k) Ψ S := SW.of_step (fun _ _ _ _ => step_goto hk) h

theorem SW.cond {c : Operand} {x y : Code} {t : Bool} (hc : ev S.E c = .v (.bool t)) (h : SW P (.code (bif t then x else y) :: k) Ψ S) : SW P (.code (.cond c x y) :: k) Ψ S :=
  fun Z w F β a r b cs => by
    obtain ⟨Z', w', β', S', a', todo, h1, h2, h3, h4⟩ := h Z w F β a r b cs
    have h0 := r.ev c
    rw [hc] at h0
    refine ⟨Z', w', β', S', a', todo, h1, h2, h3, .head (step_cond (VR.bool_inv h0)) ?_⟩
    cases t <;> exact h4

theorem SW.condT {c : Operand} {x y : Code} (hc : ev S.E c = .v (.bool true)) (h : SW P (.code x :: k) Ψ S) : SW P (.code (.cond c x y) :: k) Ψ S := SW.cond hc h
theorem SW.condF {c : Operand} {x y : Code} (hc : ev S.E c = .v (.bool false)) (h : SW P (.code y :: k) Ψ S) : SW P (.code (.cond c x y) :: k) Ψ S := SW.cond hc h

theorem SW.region {id : Nat} {ops : Array Oper} (h : WO P ops (List.range ops.size) (SW P k Ψ) S) : SW P (.code (.region id ops false) :: k) Ψ S := fun Z w F β a r b cs => by
  obtain ⟨e, a', w', ⟨rfl, Z', β', S', hz, r', hk⟩, harr⟩ := wp_ops _ a w (h.sound _ (Ctx.le.refl Z) r) b k cs
  obtain ⟨Z2, w2, β2, S2, a2, todo, h1, h2, h3, h4⟩ := hk Z' w' F β' a' r' b cs
  exact ⟨Z2, w2, β2, S2, a2, todo, hz.trans h1, h2, h3, .head step_region (Steps.trans harr h4)⟩

theorem SW.regionDraw {id : Nat} {ops : Array Oper} (h : ∀ t, WO P ops (Region.schedule (P.follows .mixedOrders) ops t) (SW P k Ψ) S) : SW P (.code (.region id ops true) :: k) Ψ S := fun Z w F β a r b cs => by
  have r1 : Rel Z { w with drawn := w.drawn + 1 } F β S a := ⟨r.defers, r.size, r.heap.drew, r.env⟩
  obtain ⟨e, a', w', ⟨rfl, Z', β', S', hz, r', hk⟩, harr⟩ := wp_ops _ a _ ((h (w.tape w.drawn (.order b.fn id))).sound _ (Ctx.le.refl Z) r1) b k cs
  obtain ⟨Z2, w2, β2, S2, a2, todo, h1, h2, h3, h4⟩ := hk Z' w' F β' a' r' b cs
  exact ⟨Z2, w2, β2, S2, a2, todo, hz.trans h1, h2, h3, .head step_region_draw (Steps.trans harr h4)⟩

/-- A loop: what holds at the head of each round, with a measure that falls. -/
theorem SW.loop {c : Code} (I : Nat → St → Prop) (m : Nat) (h0 : I m S)
    (round : ∀ m S, I m S → (∀ m' S', m' < m → I m' S' → SW P (.inLoop c :: k) Ψ S') → SW P (.code c :: .inLoop c :: k) Ψ S) : SW P (.code (.loop c) :: k) Ψ S := by
  have key : ∀ m S, I m S → SW P (.code c :: .inLoop c :: k) Ψ S := by
    intro m
    induction m using Nat.strongRecOn with
    | _ m ih => exact fun S hI => round m S hI fun m' S' hlt hI' => SW.inLoop (ih m' hlt S' hI')
  exact SW.loop0 (key m S h0)

theorem SW.join {M : St → Prop} (hk : ∀ S', M S' → SW P k Ψ S') {k0 : List Item} (h : (∀ S', M S' → SW P k Ψ S') → SW P k0 Ψ S) : SW P k0 Ψ S := h hk

/-- A state that says less. -/
structure St.Le (S' S : St) : Prop where
  n : S'.n = S.n
  E : ∀ i, S'.E i = S.E i ∨ S'.E i = .v .und
  B : S'.B.Sublist S.B
  H : ∃ R, S.H.Perm (S'.H ++ R)

theorem SW.weaken {S' : St} (hl : St.Le S' S) (h : SW P k Ψ S') : SW P k Ψ S := fun Z w F β a r b cs => by
  obtain ⟨R, hp⟩ := hl.H
  refine h Z w F β a ⟨r.defers, by rw [hl.n]; exact r.size, ?_, fun i => ?_⟩ b cs
  · refine r.heap.perm ?_ |>.sub ?_ (L := S'.H ++ (R ++ (boxes β S.B ++ F)))
    · have := hp.append_right (boxes β S.B ++ F)
      simpa using this
    · exact List.Sublist.append (List.Sublist.refl _) (List.Sublist.trans (List.Sublist.append (hl.B.map _) (List.Sublist.refl F)) (List.sublist_append_right R _))
  · rcases hl.E i with e | e
    · rw [e]; exact r.env i
    · rw [e]; exact VR.und _
end rules

/-- What a frame hands back. -/
def fres1 (P : Program) (S : St) : ResultVar → Option FV
  | .tmp t => match S.E t with
    | .v x => some x
    | .loc _ _ => none
  | .cell c t => match S.E c with
    | .loc s p => match getB S.B s, tySize P t, tyHas P t with
      | some cs, some n, true => ldv (tyAgg P t) n cs p
      | _, _, _ => none
    | .v _ => none

def fresL (P : Program) (S : St) : List ResultVar → Option (List FV)
  | [] => some []
  | v :: r => match fres1 P S v, fresL P S r with
    | some x, some l => some (x :: l)
    | _, _ => none

def fres (P : Program) (S : St) (rs : List ResultVar) : Option FV :=
  match fresL P S rs with
  | some [x] => some x
  | some l => some (.tup l)
  | none => none

def resSem (tmps : Array Value) : ResultVar → Sem Value
  | .tmp t => pure (tmps.getD t undef)
  | .cell c t => do loadVar t (← asAddr (tmps.getD c undef))

theorem results_eq (fn : Func) (tmps : Array Value) : results fn tmps = (do
    let vs ← fn.results.mapM (resSem tmps)
    pure (if h : vs.size = 1 then vs[0] else .tuple vs)) := by
  rfl

theorem fresL_ok {P : Program} {S : St} {Z : Ctx} {w : World} {F : Heap} {β : Nat → Nat} {a : Act} (r : Rel Z w F β S a) : ∀ (rs : List ResultVar) (xs : List FV), fresL P S rs = some xs →
    ∃ vs : List Value, (rs.mapM (resSem a.tmps)).run P w = .ok vs w ∧ VRs Z xs vs.toArray
  | [], xs, h => by simp [fresL] at h; subst h; exact ⟨[], by simp, VRs.nil Z⟩
  | v :: rs, xs, h => by
    simp only [fresL] at h
    cases h1 : fres1 P S v with
    | none => simp [h1] at h
    | some x =>
      cases h2 : fresL P S rs with
      | none => simp [h1, h2] at h
      | some l =>
        simp only [h1, h2, Option.some.injEq] at h
        subst h
        obtain ⟨vs, hrun, hvs⟩ := fresL_ok r rs l h2
        have hd : ∃ u, (resSem a.tmps v).run P w = .ok u w ∧ VR Z x u := by
          cases v with
          | tmp t =>
            simp only [fres1] at h1
            have h0 := r.env t
            cases hE : S.E t with
            | loc s p => simp [hE] at h1
            | v y =>
              simp only [hE, Option.some.injEq] at h1
              subst h1
              rw [hE] at h0
              exact ⟨_, rfl, h0⟩
          | cell c t =>
            simp only [fres1] at h1
            have h0 := r.env c
            cases hE : S.E c with
            | v y => simp [hE] at h1
            | loc s p =>
              simp only [hE] at h1
              rw [hE] at h0
              have h0' : a.tmps.getD c undef = .pointer (some ⟨β s, p, none⟩) := h0
              cases hB : getB S.B s with
              | none => simp [hB] at h1
              | some cs =>
                cases hn : tySize P t with
                | none => simp [hB, hn] at h1
                | some n =>
                  cases hh : tyHas P t with
                  | false => simp [hB, hn, hh] at h1
                  | true =>
                    simp only [hB, hn, hh] at h1
                    obtain ⟨L, hL, _⟩ := r.boxHead hB
                    obtain ⟨ws, ty, fr, hb, hf, hn', hv⟩ := hL.obj _ (List.mem_cons_self)
                    obtain ⟨u, hu, hxu⟩ := load_ok (P := P) (t := t) (n := n) (Z := Z) (w := w) (b := β s) (o := 0) (off := p) (cs := cs) (x := x) (fun i => ws.getD i undef) hh hn
                      (fun i hi => ⟨by rw [cell_of hb, Nat.zero_add]; simp [Array.getD, show i < ws.size by rw [hv.len]; exact hi], hv.get i hi⟩) h1
                    simp only [Nat.zero_add] at hu
                    refine ⟨u, ?_, hxu⟩
                    simp only [resSem, h0', asAddr]
                    simpa using hu
        obtain ⟨u, hu, hxu⟩ := hd
        refine ⟨u :: vs, ?_, ⟨by simpa using hvs.len, fun i hi => ?_⟩⟩
        · rw [List.mapM_cons, Sem.run_bind, hu]
          simp only [Result.andThen_ok, Sem.run_bind, hrun, Sem.run_pure]
        · cases i with
          | zero => simpa using hxu
          | succ i =>
            have := hvs.get i (by simpa using hi)
            simpa [Array.getD] using this

theorem fres_ok {P : Program} {fn : Func} {S : St} {Z : Ctx} {w : World} {F : Heap} {β : Nat → Nat} {a : Act} (r : Rel Z w F β S a) {x : FV} (h : fres P S fn.results.toList = some x) :
    ∃ v, (results fn a.tmps).run P w = .ok v w ∧ VR Z x v := by
  unfold fres at h
  cases hl : fresL P S fn.results.toList with
  | none => simp [hl] at h
  | some xs =>
    obtain ⟨vs, hrun, hvs⟩ := fresL_ok r _ xs hl
    have hlen : vs.length = xs.length := by simpa using hvs.len
    have hm : (fn.results.mapM (resSem a.tmps)).run P w = .ok vs.toArray w := by
      rw [Array.mapM_eq_mapM_toList, Sem.run_map, hrun]; rfl
    rw [results_eq, Sem.run_bind, hm]
    simp only [Result.andThen_ok, Sem.run_pure]
    rw [hl] at h
    match xs, vs, hlen, hvs, h with
    | [y], [v], _, hvs, h =>
      simp only [Option.some.injEq] at h
      subst h
      have := hvs.get 0 (by simp)
      exact ⟨v, by simp, by simpa using this⟩
    | [], [], _, hvs, h =>
      simp only [Option.some.injEq] at h
      subst h
      exact ⟨.tuple #[], by simp, VR.tup' hvs⟩
    | y :: z :: l, v :: u :: vs, _, hvs, h =>
      simp only [Option.some.injEq] at h
      subst h
      exact ⟨.tuple (v :: u :: vs).toArray, by simp, VR.tup' hvs⟩

/-- The slots when a function begins. -/
def E0 (args : List FV) : Nat → TV := fun i => match args[i]? with
  | some x => .v x
  | none => .v .und

theorem FCall.intro {P : Program} {f : FuncId} {fn : Func} {c : Code} {args : List FV} {H : Heap} {Q : FV → Heap → Prop} (hf : P.funcs[f]? = some fn) (hb : fn.body = some c)
    (hname : (fn.name == "runtime.NumGoroutine") = false) (hn : Nat.ble args.length fn.ntmps = true)
    (h : SW P [.code c] (fun S => ∃ x, fres P S fn.results.toList = some x ∧ Q x S.H) ⟨fn.ntmps, E0 args, [], H⟩) : FCall P f args H Q := by
  refine ⟨⟨fn, hf, hname, by rw [hb]; rfl⟩, fun Z w F vs hv hh => ?_⟩
  have hle : args.length ≤ fn.ntmps := Nat.le_of_ble_eq_true hn
  intro cs
  let b : Frame := { (default : Frame) with fn := f, kind := .normal }
  have henter : Frame.enter P f vs .normal = b.at { tmps := vs ++ Array.replicate (fn.ntmps - vs.size) undef, defers := [] } [.code c] := by
    simp [Frame.enter, Frame.at, hf, hb, b]
  have r : Rel Z w F (fun i => i) ⟨fn.ntmps, E0 args, [], H⟩ { tmps := vs ++ Array.replicate (fn.ntmps - vs.size) undef, defers := [] } := by
    refine ⟨rfl, ?_, by simpa [boxes] using hh, fun i => ?_⟩
    · simp [hv.len]; omega
    · show TVR Z _ (E0 args i) _
      cases hi : args[i]? with
      | none =>
        have e : E0 args i = .v .und := by simp [E0, hi]
        rw [e]; exact VR.und _
      | some x =>
        have hlt : i < args.length := (List.getElem?_eq_some_iff.1 hi).1
        have := hv.get i hlt
        simp only [List.getD, hi, Option.getD_some] at this
        have e : (vs ++ Array.replicate (fn.ntmps - vs.size) undef).getD i undef = vs.getD i undef := by
          simp only [Array.getD_eq_getD_getElem?]
          rw [Array.getElem?_append_left (by rw [hv.len]; exact hlt)]
        have e2 : E0 args i = .v x := by simp [E0, hi]
        rw [e, e2]; exact this
  obtain ⟨Z', w', β', S', a', todo, h1, h2, ⟨x, h3, h4⟩, h5⟩ := h Z w F _ _ r b cs
  rw [← henter] at h5
  obtain ⟨v, h6, h7⟩ := fres_ok h2 h3
  refine ⟨.returned v, w', _, ⟨x, S'.H, v, Z', rfl, h1, ?_, h7, h4⟩, h5, rfl, rfl, h2.defers, rfl, fn, hf, h6⟩
  exact h2.heap.sub (List.Sublist.append (List.Sublist.refl _) (List.sublist_append_right _ _))

end Go.Fs
