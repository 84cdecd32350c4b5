/- The closed facts of the row of fnLock, one by one. Conditions: none. -/
import Derived.Test.YtbbkneenambchaaGreatDoorRows
import Derived.JoinedOf

namespace Go.Proofs.YtbbkneenambchaaGreatDoor
open Go
set_option maxRecDepth 100000
theorem both {a b : Bool} (ha : a = true) (hb : b = true) : (a && b) = true := by rw [ha, hb]; rfl
theorem jf0 : (Rows.fnLockRow.wf (OpenSpec.ofChange Rows.fnLockSpec) : Bool) = true := by kernel_rfl
theorem jf1 : (laidOutB Tryz.prog : Bool) = true := by kernel_rfl
theorem jf2 : (mapsRowed Tryz.prog : Bool) = true := by kernel_rfl
theorem jf3 : (Tryz.f3.params.all (Tryz.prog.readableRec ·) : Bool) = true := by kernel_rfl
theorem jf4 : (namedTie Tryz.prog Rows.fnLockRow.named Rows.fnLockSpec.vars : Bool) = true := by kernel_rfl
theorem jf5 : ((Rows.fnLockRow.stops == []) : Bool) = true := by kernel_rfl
theorem jf6 : ((Tryz.prog.stops == []) : Bool) = true := by kernel_rfl
theorem jf7 : ((Rows.fnLockRow.knobs == []) : Bool) = true := by kernel_rfl
theorem jf8 : ((Tryz.prog.stopKnobs == []) : Bool) = true := by kernel_rfl
theorem jf9 : ((Rows.fnLockRow.inPlace == Tryz.prog.inPlace 3) : Bool) = true := by kernel_rfl
theorem jf10 : ((Rows.fnLockRow.unfollowed == Tryz.prog.unfollowed 3) : Bool) = true := by kernel_rfl
theorem jf11 : ((Rows.fnLockRow.recurses == Tryz.prog.recurses 3) : Bool) = true := by kernel_rfl
theorem jf12 : ((Rows.fnLockRow.named == Tryz.prog.varsNamed 3) : Bool) = true := by kernel_rfl
theorem jf13 : ((Rows.fnLockRow.maps == (Tryz.f3.params.toList ++ Rows.fnLockSpec.plain.varTypes Tryz.prog).any (Tryz.prog.mapsRec ·)) : Bool) = true := by kernel_rfl
theorem jf14 : ((Rows.fnLockRow.ifaces == (Tryz.f3.params.toList ++ Rows.fnLockSpec.plain.varTypes Tryz.prog).any (Tryz.prog.ifacesRec ·)) : Bool) = true := by kernel_rfl
theorem jf15 : ((Rows.fnLockRow.mapsOut == Tryz.prog.mapsAmong Tryz.f3.resultTypes.toList) : Bool) = true := by kernel_rfl
theorem jf16 : ((Rows.fnLockRow.loops == (Tryz.f3.params.toList ++ Rows.fnLockSpec.plain.varTypes Tryz.prog).any (Tryz.prog.loopsFrom ·)) : Bool) = true := by kernel_rfl
theorem jf17 : ((Rows.fnLockRow.wideKeys == (Tryz.f3.params.toList ++ Rows.fnLockSpec.plain.varTypes Tryz.prog ++ Tryz.f3.resultTypes.toList).any (Tryz.prog.wideKeysFrom ·)) : Bool) = true := by kernel_rfl
theorem jf18 : (Rows.fnLockSpec.vars.all (Tryz.prog.varReadable ·) : Bool) = true := by kernel_rfl
theorem jf19 : (Tryz.f3.resultTypes.all (fun t => Tryz.prog.readableRec t && decide (t < Tryz.prog.types.size)) : Bool) = true := by kernel_rfl
theorem jf20 : ((Rows.fnLockRow.ifacesOut == Tryz.f3.resultTypes.toList.any (Tryz.prog.ifacesRec ·)) : Bool) = true := by kernel_rfl
theorem jf21 : ((Rows.fnLockRow.loopsOut == Tryz.f3.resultTypes.toList.any (Tryz.prog.loopsFrom ·)) : Bool) = true := by kernel_rfl
theorem jf22 : ((Rows.fnLockRow.plainKeys == Tryz.prog.plainKeys) : Bool) = true := by kernel_rfl
theorem jf23 : (Rows.fnLockRow.shortTexts.isNone : Bool) = true := by kernel_rfl
theorem jf24 : (Tryz.prog.stopsHeard : Bool) = true := by kernel_rfl
theorem jf25 : (Tryz.prog.mayEnter : Bool) = true := by kernel_rfl
theorem jf26 : ((Rows.fnLockRow.lifted == Tryz.prog.liftsFinal) : Bool) = true := by kernel_rfl
theorem jf27 : ((Tryz.prog.make == some Rows.fnLockRow.make) : Bool) = true := by kernel_rfl
theorem jf28 : ((Rows.fnLockRow.kinds == (if Rows.fnLockRow.domain.isEmpty then [] else Tryz.f3.params.toList.map fun t => match Tryz.prog.underlying t with | some (.int k) => some k | _ => none)) : Bool) = true := by kernel_rfl
theorem jf29 : ((Rows.fnLockRow.pinned == Rows.fnLockRow.pinnedBy) : Bool) = true := by kernel_rfl
theorem jf30 : ((Rows.fnLockRow.veiled == (Tryz.f3.params.toList ++ Rows.fnLockSpec.plain.varTypes Tryz.prog ++ Tryz.f3.resultTypes.toList).any (Tryz.prog.veiledRec ·)) : Bool) = true := by kernel_rfl
theorem jf31 : (Rows.fnLockRow.veiledFits Tryz.prog Tryz.f3.params.toList (Tryz.f3.params.toList ++ Rows.fnLockSpec.plain.varTypes Tryz.prog ++ Tryz.f3.resultTypes.toList) : Bool) = true := by kernel_rfl
theorem facts : joinedFacts Tryz.prog 3 Tryz.f3 Rows.fnLockSpec Rows.fnLockRow = true := (both (both (both (both (both (both (both (both (both (both (both (both (both (both (both (both (both (both (both (both (both (both (both (both (both (both (both (both (both (both (both jf0 jf1) jf2) jf3) jf4) jf5) jf6) jf7) jf8) jf9) jf10) jf11) jf12) jf13) jf14) jf15) jf16) jf17) jf18) jf19) jf20) jf21) jf22) jf23) jf24) jf25) jf26) jf27) jf28) jf29) jf30) jf31)
end Go.Proofs.YtbbkneenambchaaGreatDoor
