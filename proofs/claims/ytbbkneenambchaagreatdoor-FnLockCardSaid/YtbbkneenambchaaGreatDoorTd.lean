/- A law over bytes whose run answers true, whatever the bytes: the given row. What the rows' conditions give: the two known variables, the bytes that came in. Conditions: none. -/
import Derived.Test.YtbbkneenambchaaGreatDoorTb
import Derived.Test.YtbbkneenambchaaGreatDoorRows
import Derived.Test.YtbbkneenambchaaGreatDoorTie
import Derived.Test.YtbbkneenambchaaGreatDoorCards
import Derived.ProofKit
import Derived.OpenShut
import Derived.LaidMore
import Derived.Lay
import Derived.SevenTiedAt
import Derived.Stop.Joined
import Derived.Shelf.Vars

namespace Go.Fs
open Go Go.Proofs
set_option maxRecDepth 100000

/-- All that memory holds never changes. -/
def Ctx.at (W : World) : Ctx := ⟨fun b i => W.cell? ⟨b, i, none⟩, fun _ => none, fun _ => none, fun b => W.heap[b]?, W.os, W.output, W.tape⟩
theorem HeapOK.at (W : World) : HeapOK (Ctx.at W) W [] := by
  refine ⟨List.nodup_nil, fun p h => (by cases h), fun p b h => (by cases h), fun b i v h => h, fun b n h => (by cases h), fun _ _ _ => trivial, ⟨0, fun _ _ => rfl⟩, fun b o h => h, rfl, rfl, rfl⟩

theorem below_of {W w' : World} {Z' : Ctx} {L : Heap} (hz : Ctx.le (Ctx.at W) Z') (h : HeapOK Z' w' L) : RowKit.Below W.heap.size W w' := by
  have hb : ∀ k, k < W.heap.size → w'.heap[k]? = W.heap[k]? := fun k hk => by
    have h1 : (Ctx.at W).old k = some W.heap[k] := by show W.heap[k]? = _; simp [hk]
    rw [h.old _ _ (hz.old _ _ h1)]
    simp [hk]
  refine ⟨by rw [h.os, hz.os]; rfl, by rw [h.tape, hz.tape]; rfl, by rw [h.out, hz.out]; rfl, ?_, hb⟩
  rcases Nat.eq_zero_or_pos W.heap.size with h0 | h0
  · omega
  · have h1 := hb (W.heap.size - 1) (by omega)
    have h2 : W.heap[W.heap.size - 1]? = some W.heap[W.heap.size - 1] := by simp
    rw [h2] at h1
    have := (Array.getElem?_eq_some_iff.1 h1).1
    omega

/-- What the two known variables hold. -/
structure VarsOK (W : World) (m : Int) : Prop where
  len : W.cell? ⟨0, 0, none⟩ = some (.int .i64 m)
  has : IntKind.i64.has m
  tab : ∀ i, i < 64 → W.cell? ⟨2, i, none⟩ = some (.int .u8 (tab64.getD i 0))

theorem tab64_has : ∀ i, i < 64 → IntKind.u8.has (((tab64.getD i 0 : Nat)) : Int) := by
  have h : (List.range 64).all (fun i => Nat.blt (tab64.getD i 0) 256) = true := by decide
  intro i hi
  have h1 := Nat.le_of_ble_eq_true (List.all_eq_true.1 h i (List.mem_range.2 hi))
  generalize tab64.getD i 0 = z at h1
  exact ⟨by show (0 : Int) ≤ _; omega, by show _ ≤ (255 : Int); omega⟩

theorem gok {W : World} {m : Int} (h : VarsOK W m) (t : List Ent3) (fns : List Nat) (u : List Ent4) (gns : List Nat) : GOK (cfg5 m t fns u gns) (Ctx.at W) := fun g cs hg => by
  have hg : glob m g = some cs := hg
  unfold glob at hg
  rcases brec hg with ⟨_, hg⟩ | ⟨e, hg⟩
  · rcases brec hg with ⟨_, hg⟩ | ⟨e, hg⟩
    · cases hg
    · cases hg
      rw [Nat.eq_of_beq_eq_true e]
      have hl : tab64.length = 64 := rfl
      refine .pp _ 2 0 (fun i => .int .u8 (tab64.getD i 0)) (fun i hi => ?_) (fun i hi => ?_)
      · rw [List.length_map, hl] at hi
        rw [Nat.zero_add]; exact h.tab i hi
      · rw [List.length_map, hl] at hi
        have e2 : (tab64.map fun n => FV.int .u8 (.ofNat n)).getD i .und = .int .u8 (.ofNat (tab64.getD i 0)) := by simp [List.getD, show i < tab64.length by omega]
        rw [e2]
        exact .int _ _ (tab64_has i hi)
  · cases hg
    rw [Nat.eq_of_beq_eq_true e]
    refine .pp _ 0 0 (fun _ => .int .i64 m) (fun i hi => ?_) (fun i hi => ?_)
    · have : i = 0 := by simp at hi; omega
      subst this; exact h.len
    · have : i = 0 := by simp at hi; omega
      subst this; exact .int _ _ h.has

/-- From the run to the call: it answers true, and what was there is as it was. -/
theorem calls_true {f : Nat} {m : Int} {t : List Ent3} {fns : List Nat} {u : List Ent4} {gns : List Nat} {x : FV} {H : HT} {c : Nat} (ht : Tab m t) (hu : TabC m u) (hr : callT m t fns u gns f [x] H0T 0 = .ok (.bool true) H c)
    {W : World} (hv : VarsOK W m) {v : Value} (hx : VR (Ctx.at W) x v) : Calls Tryz.prog f #[v] W fun e w' => e = .returned (.bool true) ∧ RowKit.Below W.heap.size W w' := by
  obtain ⟨_, hc⟩ := callT_ok ht hu _ _ _ _ _ _ _ hr
  refine (hc.2 (Ctx.at W) W [] #[v] (VRs.one hx) (by rw [toL_H0]; exact HeapOK.at W) (fun _ _ => rfl) (gok hv t fns u gns)).mono fun e w' ⟨r, Z', he, hz, hh, _, hb⟩ => ?_
  cases hb
  exact ⟨he, below_of hz hh⟩
end Go.Fs

namespace Go.Proofs.YtbbkneenambchaaGreatDoor
open Go.ChangeShapes Go.WideShapes Go.ChangeAt Go.RowKit Go.Fs
set_option maxRecDepth 100000

theorem own : ownKnob Tryz.prog.godebug = none := by kernel_rfl
theorem cells5 : Tryz.prog.cellsOf 5 = 1 := by kernel_rfl
/-- MaxLen holds some number that an int can be. -/
theorem some_len {W : World} (h : W.ShapedOpen Tryz.prog) : ∃ m, W.cell? ⟨0, 0, none⟩ = some (.int .i64 m) ∧ IntKind.i64.has m := by
  obtain ⟨cs, hh, hs, hr⟩ := h.1 0 #[.int .i64 0] 3 (of_decide_eq_true (by kernel_rfl)) (by kernel_rfl)
  obtain ⟨ts, hts, _, hall⟩ := hr (by kernel_rfl)
  have e : Tryz.prog.cellTypes Tryz.prog.depth 3 = some [3] := by kernel_rfl
  rw [e] at hts
  cases hts
  have h1 : 0 < cs.size := by rw [hs]; exact Nat.one_pos
  obtain ⟨u, hu', hok⟩ := hall 0 cs[0] (by simp [h1])
  have : u = 3 := by simpa using hu'.symm
  subst this
  have hcell : W.cell? ⟨0, 0, none⟩ = some cs[0] := by simp [World.cell?, hh, h1]
  rw [hcell]
  unfold Cell.ok at hok
  rw [Tryz.underlying3] at hok
  cases hv : cs[0] <;> rw [hv] at hok <;> simp at hok
  case int k' n => exact ⟨n, by rw [hok.1], by obtain ⟨rfl, h2⟩ := hok; exact h2⟩

def tabZ : List Int := tab64.map Int.ofNat
theorem laid_is {H : Type} : (Rows.laid_math_bits_deBruijn64tab : DataW H) = .agg (tabZ.map fun n => .lit (.int .u8 n)) := rfl

theorem tab_cell {W : World} (h : laidMetH Tryz.prog Rows.fnLockRow.laid W) (r : Nat) (hr : r < 64) : W.cell? ⟨2, r, none⟩ = some (.int .u8 (tab64.getD r 0)) := by
  rw [MakeChecks.laidMetH_plain _ _ _ (by kernel_rfl)] at h
  obtain ⟨ps, ⟨_, _, _, _, _, _, _, _, _, _, ⟨g, t, cs, fuel, p, q, hg, ht, hv, hd, _⟩, _⟩, _, _⟩ := h
  obtain rfl := Option.some.inj ((show Tryz.prog.globalNamed "math/bits.deBruijn64tab" = some 2 by kernel_rfl).symm.trans hg)
  obtain rfl := Option.some.inj ((show (Tryz.prog.globals[2]?).map (·.type) = some 334 by kernel_rfl).symm.trans ht)
  obtain ⟨xs, m, _, ex, _, hl, hel⟩ := DataW.trod_array Tryz.underlying334 hd
  have hE := hel r hr
  rw [cells5, Nat.mul_one, List.getElem?_eq_getElem (by omega)] at hE
  obtain ⟨z, e1, e2, _⟩ := DataW.trod_int Tryz.underlying5 hE
  have hlen : tabZ.length = 64 := by kernel_rfl
  have e5 := (Prod.mk.inj ex).1
  rw [laid_is] at e5
  have e3 : (xs.map (·.1)) = tabZ.map fun n => .lit (.int .u8 n) := (DataW.agg.inj e5).symm
  have e4 : (xs.map (·.1))[r]? = (tabZ.map fun n => (DataW.lit (.int .u8 n) : DataW Unit))[r]? := by rw [e3]
  rw [List.getElem?_map, List.getElem?_map, List.getElem?_eq_getElem (by omega : r < xs.length), List.getElem?_eq_getElem (by omega : r < tabZ.length), e2] at e4
  have hz : z = (tab64.getD r 0 : Nat) := by
    simp only [Option.map_some, Option.some.injEq, DataW.lit.injEq, Lit.int.injEq, true_and] at e4
    rw [e4]
    have hl2 : r < tab64.length := hr
    simp [tabZ, List.getD, List.getElem?_eq_getElem hl2]
  rw [World.var?_cell hg hv r, ← hz]
  have : cs.toList[r]? = some (.int .u8 z) := by
    have h0 : ((cs.toList.drop r).take 1)[0]? = some (.int .u8 z) := by rw [e1]; rfl
    simpa using h0
  simpa using this

section
variable {H : Type} {enc : TypeId × Value → H}
/-- A slice of bytes that came in, as the run sees it. -/
theorem open_code {W : World} {base : Nat} {v1 : Value} {d1 : DataW H} {p1 : List MemPlace} (hval : Value.okWide Tryz.prog W .any base 22 v1) (h1 : DataW.Trod enc Tryz.prog W 0 (fun _ => true) true 22 v1 d1 p1) :
    ∃ x, VR (Ctx.at W) x v1 ∧ ((∃ a l c, x = .val (.slice a l c) ∧ 1048576 < l) ∨ (∃ es : List Nat, x = .sl 1 (es.map fun b => [.int .u8 (.ofNat b)]) ∧ ∀ b, b ∈ es → b < 256)) := by
  obtain ⟨a1, len, cap, rfl⟩ := okWide_slice Tryz.underlying22 hval
  obtain ⟨fuel, hf⟩ := h1
  rcases open_ints Tryz.underlying22 Tryz.underlying5 cells5 hf with ⟨hcs, hx⟩ | ⟨a, len', cap', zs, hcs, _, hl, hm, hz, hx, hcell, hwz⟩
  · simp [Value.cells] at hcs
    obtain ⟨rfl, rfl, rfl⟩ := hcs
    exact ⟨.sl 1 [], .slN 1, Or.inr ⟨[], rfl, fun _ h => (by cases h)⟩⟩
  · simp [Value.cells] at hcs
    obtain ⟨rfl, rfl, rfl⟩ := hcs
    simp only [if_true] at hz
    by_cases hbig : 1048576 < len
    · exact ⟨_, .val _, Or.inl ⟨_, _, _, rfl, hbig⟩⟩
    · have hb : ∀ i, i < len → 0 ≤ zs.getD i 0 ∧ zs.getD i 0 < 256 := fun i hi => by
        have := range_u8 hwz i
        rw [List.getD_eq_getElem?_getD]; omega
      by_cases h0 : len = 0
      · subst h0
        have hc0 : VR (Ctx.at W) (.sl 1 []) (.slice (some a) 0 cap) := by
          obtain ⟨ab, ao, spot⟩ := a
          cases cap with
          | zero => exact .slN' 1 _
          | succ n =>
            have hspot : spot = none := by simpa [Addr.add] using World.cell?_spot (hcell 0 (by omega))
            subst hspot
            exact .sl 1 [] ab ao (fun _ => undef) (n + 1) (fun _ h => (by cases h)) (fun i hi => by simp at hi) (fun i j hi => by simp at hi) (by simp) (by simp)
        exact ⟨.sl 1 [], hc0, Or.inr ⟨[], rfl, fun _ h => (by cases h)⟩⟩
      · obtain ⟨ab, ao, spot⟩ := a
        have hspot : spot = none := by simpa [Addr.add] using World.cell?_spot (hcell 0 (by omega))
        subst hspot
        refine ⟨.sl 1 (((zs.take len).map Int.toNat).map fun b => [.int .u8 (.ofNat b)]), ?_, Or.inr ⟨_, rfl, fun b hb' => ?_⟩⟩
        · have hlen : (((zs.take len).map Int.toNat).map fun b => [FV.int .u8 (.ofNat b)]).length = len := by simp; omega
          have key := VR.sl (Z := Ctx.at W) 1 (((zs.take len).map Int.toNat).map fun b => [FV.int .u8 (.ofNat b)]) ab ao (fun i => .int .u8 (zs.getD i 0)) cap
            (fun e he => by obtain ⟨b, _, rfl⟩ := List.mem_map.1 he; rfl)
            (fun i hi => by
              rw [hlen] at hi
              have := hcell i (by omega)
              rw [Addr.add_lit] at this
              exact this)
            (fun i j hi hj => by
              rw [hlen] at hi
              have hj0 : j = 0 := by omega
              subst hj0
              have e1 : (((zs.take len).map Int.toNat).map fun b => [FV.int .u8 (.ofNat b)]).getD i [] = [FV.int .u8 (.ofNat (zs.getD i 0).toNat)] := by
                simp [List.getD, hi, show i < zs.length by omega]
              rw [e1]
              have h2 := hb i hi
              have e2 : (Int.ofNat (zs.getD i 0).toNat) = zs.getD i 0 := by show (((zs.getD i 0).toNat : Nat) : Int) = _; omega
              show VR _ (.int .u8 (Int.ofNat (zs.getD i 0).toNat)) (.int .u8 (zs.getD (i * 1 + 0) 0))
              rw [e2, Nat.mul_one, Nat.add_zero]
              exact .int _ _ ⟨by show (0 : Int) ≤ _; omega, by show _ ≤ (255 : Int); omega⟩)
            (by rw [hlen]; exact hl) (by rw [hlen]; show _ < 68719476736; omega)
          rw [hlen] at key
          exact key
        · obtain ⟨z, hz', rfl⟩ := List.mem_map.1 hb'
          have := bounds_u8 (hwz z (List.mem_of_mem_take hz'))
          omega

end
end Go.Proofs.YtbbkneenambchaaGreatDoor
