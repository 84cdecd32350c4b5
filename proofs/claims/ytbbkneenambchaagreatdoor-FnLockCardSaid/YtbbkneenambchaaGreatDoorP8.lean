/- Pieces of a run, tag A, part 8. Conditions: none. -/
import Derived.Test.YtbbkneenambchaaGreatDoorP7

namespace Go.Fs
open Go Go.Proofs
set_option maxRecDepth 100000
noncomputable section
def Ae121 : Ent4 := ⟨49, [(.rp 7 6 0 0), Ao12, Ao39], [(5, Ao49), (6, Ao7)], 10906, (.bool false), [(5, Ao50), (6, Ao7)], 12738⟩
theorem Ak121 (m : Int) : chk4 (callG m [] [] [] []) Ae121 = true := by kernel_rfl
theorem Ap121 {m : Int} : Cu m Ae121 := piece4 (t := []) (fns := []) (u := []) (gns := []) (ok_all m) .nil .nil (Ak121 m)
def Ae122 : Ent4 := ⟨49, [(.rp 7 6 0 0), Ao12, Ao41], [(5, Ao50), (6, Ao7)], 12778, (.bool true), [(5, Ao51), (6, Ao7)], 13672⟩
theorem Ak122 (m : Int) : chk4 (callG m [] [] [] []) Ae122 = true := by kernel_rfl
theorem Ap122 {m : Int} : Cu m Ae122 := piece4 (t := []) (fns := []) (u := []) (gns := []) (ok_all m) .nil .nil (Ak122 m)
def Aa123 : List FV := [Ao1, Ao52, Ao12]
def Ar123 : FV := (.sl 1 [[(.int .i64 (.ofNat 2))], [(.int .i64 (.ofNat 4))], [(.int .i64 (.ofNat 6))]])
theorem Ak123 (m : Int) : isV (runP m [⟨78, Aa4, Ar4⟩, ⟨77, Aa11, Ar11⟩, ⟨129, Aa27, Ar27⟩] [77, 78, 129] [Ae116, Ae117, Ae118, Ae119, Ae120, Ae121, Ae122] [49] 11 Aa123) Ar123 = true := by kernel_rfl
theorem Ap123 {m : Int} : Pu m 11 Aa123 Ar123 := piece (t := [⟨78, Aa4, Ar4⟩, ⟨77, Aa11, Ar11⟩, ⟨129, Aa27, Ar27⟩]) (fns := [77, 78, 129]) (u := [Ae116, Ae117, Ae118, Ae119, Ae120, Ae121, Ae122]) (gns := [49]) (ok_all m) (.cons Ap4 (.cons Ap11 (.cons Ap27 .nil))) (.cons Ap116 (.cons Ap117 (.cons Ap118 (.cons Ap119 (.cons Ap120 (.cons Ap121 (.cons Ap122 .nil))))))) (Ak123 m) (by kernel_rfl) (by kernel_rfl)
def Aa124 : List FV := [Ao1, Ao52, Ao13]
def Ar124 : FV := (.tup [(.sl 1 [[(.int .i64 (.ofNat 0))], [(.int .i64 (.ofNat 0))], [(.int .i64 (.ofNat 1))], [(.int .i64 (.ofNat 0))], [(.int .i64 (.ofNat 1))], [(.int .i64 (.ofNat 0))], [(.int .i64 (.ofNat 1))]]), (.bool true)])
theorem Ak124 (m : Int) : isV (runP m [⟨78, Aa4, Ar4⟩, ⟨77, Aa11, Ar11⟩, ⟨129, Aa27, Ar27⟩, ⟨11, Aa123, Ar123⟩] [11, 77, 78, 129] [] [] 12 Aa124) Ar124 = true := by kernel_rfl
theorem Ap124 {m : Int} : Pu m 12 Aa124 Ar124 := piece (t := [⟨78, Aa4, Ar4⟩, ⟨77, Aa11, Ar11⟩, ⟨129, Aa27, Ar27⟩, ⟨11, Aa123, Ar123⟩]) (fns := [11, 77, 78, 129]) (u := []) (gns := []) (ok_all m) (.cons Ap4 (.cons Ap11 (.cons Ap27 (.cons Ap123 .nil)))) .nil (Ak124 m) (by kernel_rfl) (by kernel_rfl)
def Ao53 : FV := (.sl 1 [[(.int .i64 (.ofNat 0))], [(.int .i64 (.ofNat 0))], [(.int .i64 (.ofNat 1))], [(.int .i64 (.ofNat 0))], [(.int .i64 (.ofNat 1))], [(.int .i64 (.ofNat 0))], [(.int .i64 (.ofNat 1))]])
def Aa125 : List FV := [Ao52, Ao53, Ao14]
def Ar125 : FV := (.tup [(.bool true), (.bool true)])
theorem Ak125 (m : Int) : isV (runP m [] [] [] [] 13 Aa125) Ar125 = true := by kernel_rfl
theorem Ap125 {m : Int} : Pu m 13 Aa125 Ar125 := piece (t := []) (fns := []) (u := []) (gns := []) (ok_all m) .nil .nil (Ak125 m) (by kernel_rfl) (by kernel_rfl)
def Aa126 : List FV := [Ao52, Ao53, Ao14]
def Ar126 : FV := (.tup [(.bool true), (.bool true)])
theorem Ak126 (m : Int) : isV (runP m [] [] [] [] 14 Aa126) Ar126 = true := by kernel_rfl
theorem Ap126 {m : Int} : Pu m 14 Aa126 Ar126 := piece (t := []) (fns := []) (u := []) (gns := []) (ok_all m) .nil .nil (Ak126 m) (by kernel_rfl) (by kernel_rfl)
end
end Go.Fs
