/- The law of the lock answers true at every slice of bytes: the row and the tied card. Conditions: none. -/
import Derived.Test.YtbbkneenambchaaGreatDoorTc
import Derived.Test.YtbbkneenambchaaGreatDoorTd
import Derived.Test.YtbbkneenambchaaGreatDoorJ
import Derived.Test.YtbbkneenambchaaGreatDoorK
import Derived.Carry

namespace Go.Proofs.YtbbkneenambchaaGreatDoor
open Go.ChangeShapes Go.WideShapes Go.ChangeAt Go.RowKit Go.Fs
set_option maxRecDepth 100000

theorem laidOut : laidOutB Tryz.prog = true := by kernel_rfl
theorem lifted (os : Os) (started : os.Started) (H : Type) (enc : TypeId × Value → H) :
    ReturnsInHanded {} Tryz.checked os 3 .any (fun w args => (Rows.fnLockSpec.pre enc Tryz.prog Tryz.f3 [] false w args ∧ laidMetH Tryz.prog Rows.fnLockRow.laid w) ∧ sizedMet enc Tryz.prog Tryz.f3 (OpenSpec.ofChange Rows.fnLockSpec) false w args)
      (Rows.fnLockSpec.post enc Tryz.prog Tryz.f3 false true false false) := by
  refine returnsInHanded_of_calls (C := Tryz.checked) own started (by kernel_rfl)
    (ChangeSpec.witness_shaped (enc := enc) (C := Tryz.checked) (os := os) (X := fun w _ => laidMetH Tryz.prog Rows.fnLockRow.laid w) false (World.laidAll Tryz.prog os Rows.fnLockRow.laid) #[.slice none 0 0] 8 (World.laidAll_os _ _ _)
      (World.shaped_of_ZipB (by kernel_rfl) (by kernel_rfl)) (by kernel_rfl) (by kernel_rfl) (by kernel_rfl)
      (by rw [MakeChecks.laidMetH_plain _ _ _ (by kernel_rfl)]; exact laidMet_laidAll _ (by kernel_rfl) (by kernel_rfl))) ?_
  intro w tape i _ hsh _ hok hpre hholds
  obtain ⟨_, _, _, fn', hfn', _, _, _, _, hval0⟩ := hok
  obtain rfl : fn' = Tryz.f3 := Option.some.inj (hfn'.symm.trans Tryz.func3)
  obtain ⟨⟨⟨ds, gs, before, hw, hc⟩, hx⟩, hz⟩ := hpre
  have hW := DataW.Whole.of_heap (w' := w.forCall tape i) (by rfl) hw
  have hL : laidMetH Tryz.prog Rows.fnLockRow.laid (w.forCall tape i) := hx.of_heap (by rfl)
  have hval : ∀ (j : Nat) t v, Tryz.f3.params[j]? = some t → i.args[j]? = some v → Value.okWide Tryz.prog (w.forCall tape i) .any w.heap.size t v := hval0
  generalize w.forCall tape i = W at hW hL hsh hval ⊢
  generalize i.args = args at hW hval ⊢
  have hW' := hW
  obtain ⟨p, q, hA0, hV, rfl, _, _⟩ := hW
  have hA : DataW.TrodAll enc Tryz.prog W 0 (fun _ => true) true Tryz.f3.params.toList args.toList ds p := hA0
  rw [Tryz.params3] at hA hval
  obtain ⟨v0, d0, rfl, rfl, h0⟩ := trodAll_one hA
  obtain ⟨rfl, rfl⟩ := trodVars_none hV
  obtain ⟨m, hm1, hm2⟩ := some_len hsh
  have hvars : VarsOK W m := ⟨hm1, hm2, fun r hr => tab_cell hL r hr⟩
  obtain ⟨x, hx1, hx2⟩ := open_code (hval 0 22 v0 rfl rfl) h0
  obtain ⟨t, Hh, c, ht, hr⟩ := lock_run m x hx2
  simp only [List.append_nil] at hW'
  have hlt : ∀ y ∈ p, y.block < W.heap.size := fun y hy => by simpa using hW'.lt y hy
  refine (calls_true ht TabC.nil hr hvars hx1).mono fun e W' ⟨he, hB⟩ => ?_
  subst he
  have hp : Rows.fnLockSpec.post enc Tryz.prog Tryz.f3 false true false false W #[v0] (.bool true) W' :=
    ⟨_, _, _, [], p, [], hW', trodAll_mk1 (shut_bool Tryz.underlying4 _), trodAll_mk1 (Below.trod laidOut (by kernel_rfl) (of_decide_eq_true (by kernel_rfl)) h0 hB hlt), rfl, hB.frame _, fun h => by cases h⟩
  exact ChangeSpec.post_blind hp

theorem fnLock_said : Rows.FnLockSaid :=
  OpenClaim.holds_of_wide 3 Tryz.f3 rfl rfl rfl rfl rfl rfl rfl ⟨rfl, rfl, rfl, rfl, rfl⟩ rfl rfl rfl rfl rfl (by kernel_rfl) Tryz.func3 facts
    (of_decide_eq_true (by kernel_rfl)) (by unfold Func.isWrapper; first | (rw [if_pos (by decide +kernel)]; kernel_rfl) | (rw [if_neg (by decide +kernel)]; exact ⟨rfl, rfl⟩))
    (fun os started H enc _ => lifted os started H enc)
theorem fnLock_holds : Rows.FnLockCardSaid :=
  Claim7.holds_tied_plain_at .later [] [.data, .data, .data, .data, .pinned] true (true, "1c469acbec412cb53c3e16d146bf8ddc2917c1bdbaf98684eeb732a9e418cd33") false fnLock_said (fun _ h => by cases h) ck1 (fun _ h => by cases h) fnLock_row_tie rfl ⟨rfl, rfl⟩ ck2 rfl
    (fun f fn hf hfn => by
      obtain rfl : f = 3 := Option.some.inj (ck5.symm.trans hf) |>.symm
      obtain rfl : fn = Tryz.f3 := (Option.some.inj (Tryz.func3.symm.trans hfn)).symm
      exact ⟨ck3, fun j t ht => by
        rw [Tryz.params3] at ht
        have hm : t ∈ [22] := by simpa using Array.mem_of_getElem? ht
        have e : t = 22 := by simpa using hm
        subst e
        exact ck6⟩)
    ck4
end Go.Proofs.YtbbkneenambchaaGreatDoor
