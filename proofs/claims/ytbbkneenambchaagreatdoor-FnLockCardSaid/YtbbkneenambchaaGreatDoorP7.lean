/- Pieces of a run, tag A, part 7. Conditions: none. -/
import Derived.Test.YtbbkneenambchaaGreatDoorP6

namespace Go.Fs
open Go Go.Proofs
set_option maxRecDepth 100000
noncomputable section
def Ae117 : Ent4 := ⟨49, [(.rp 7 6 0 0), Ao12, Ao32], [(5, Ao45), (6, Ao7)], 2211, (.bool false), [(5, Ao46), (6, Ao7)], 5354⟩
theorem Ak117 (m : Int) : chk4 (callG m [] [] [] []) Ae117 = true := by kernel_rfl
theorem Ap117 {m : Int} : Cu m Ae117 := piece4 (t := []) (fns := []) (u := []) (gns := []) (ok_all m) .nil .nil (Ak117 m)
def Ae118 : Ent4 := ⟨49, [(.rp 7 6 0 0), Ao12, Ao35], [(5, Ao46), (6, Ao7)], 5394, (.bool true), [(5, Ao47), (6, Ao7)], 6312⟩
theorem Ak118 (m : Int) : chk4 (callG m [] [] [] []) Ae118 = true := by kernel_rfl
theorem Ap118 {m : Int} : Cu m Ae118 := piece4 (t := []) (fns := []) (u := []) (gns := []) (ok_all m) .nil .nil (Ak118 m)
def Ae119 : Ent4 := ⟨49, [(.rp 7 6 0 0), Ao12, Ao34], [(5, Ao47), (6, Ao7)], 6365, (.bool false), [(5, Ao48), (6, Ao7)], 9492⟩
theorem Ak119 (m : Int) : chk4 (callG m [] [] [] []) Ae119 = true := by kernel_rfl
theorem Ap119 {m : Int} : Cu m Ae119 := piece4 (t := []) (fns := []) (u := []) (gns := []) (ok_all m) .nil .nil (Ak119 m)
def Ae120 : Ent4 := ⟨49, [(.rp 7 6 0 0), Ao12, Ao37], [(5, Ao48), (6, Ao7)], 9532, (.bool true), [(5, Ao49), (6, Ao7)], 10853⟩
theorem Ak120 (m : Int) : chk4 (callG m [] [] [] []) Ae120 = true := by kernel_rfl
theorem Ap120 {m : Int} : Cu m Ae120 := piece4 (t := []) (fns := []) (u := []) (gns := []) (ok_all m) .nil .nil (Ak120 m)
end
end Go.Fs
