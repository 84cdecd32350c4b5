/- Pieces of a run, tag A, part 2. Conditions: none. -/
import Derived.Test.YtbbkneenambchaaGreatDoorP1

namespace Go.Fs
open Go Go.Proofs
set_option maxRecDepth 100000
noncomputable section
def Ae70 : Ent4 := ⟨49, [(.rp 7 6 0 0), Ao12, Ao16], [(5, Ao24), (6, Ao7)], 1111, (.bool false), [(5, Ao25), (6, Ao7)], 2317⟩
theorem Ak70 (m : Int) : chk4 (callG m [] [] [] []) Ae70 = true := by kernel_rfl
theorem Ap70 {m : Int} : Cu m Ae70 := piece4 (t := []) (fns := []) (u := []) (gns := []) (ok_all m) .nil .nil (Ak70 m)
def Ae71 : Ent4 := ⟨49, [(.rp 7 6 0 0), Ao12, Ao19], [(5, Ao25), (6, Ao7)], 2345, (.bool true), [(5, Ao26), (6, Ao7)], 2613⟩
theorem Ak71 (m : Int) : chk4 (callG m [] [] [] []) Ae71 = true := by kernel_rfl
theorem Ap71 {m : Int} : Cu m Ae71 := piece4 (t := []) (fns := []) (u := []) (gns := []) (ok_all m) .nil .nil (Ak71 m)
def Ae72 : Ent4 := ⟨49, [(.rp 7 6 0 0), Ao12, Ao18], [(5, Ao26), (6, Ao7)], 2654, (.bool false), [(5, Ao27), (6, Ao7)], 3487⟩
theorem Ak72 (m : Int) : chk4 (callG m [] [] [] []) Ae72 = true := by kernel_rfl
theorem Ap72 {m : Int} : Cu m Ae72 := piece4 (t := []) (fns := []) (u := []) (gns := []) (ok_all m) .nil .nil (Ak72 m)
def Ae73 : Ent4 := ⟨49, [(.rp 7 6 0 0), Ao12, Ao21], [(5, Ao27), (6, Ao7)], 3515, (.bool true), [(5, Ao28), (6, Ao7)], 3781⟩
theorem Ak73 (m : Int) : chk4 (callG m [] [] [] []) Ae73 = true := by kernel_rfl
theorem Ap73 {m : Int} : Cu m Ae73 := piece4 (t := []) (fns := []) (u := []) (gns := []) (ok_all m) .nil .nil (Ak73 m)
def Aa74 : List FV := [Ao1, Ao29, Ao12]
def Ar74 : FV := (.sl 1 [[(.int .i64 (.ofNat 2))], [(.int .i64 (.ofNat 4))]])
theorem Ak74 (m : Int) : isV (runP m [⟨78, Aa4, Ar4⟩, ⟨77, Aa11, Ar11⟩, ⟨129, Aa27, Ar27⟩] [77, 78, 129] [Ae69, Ae70, Ae71, Ae72, Ae73] [49] 11 Aa74) Ar74 = true := by kernel_rfl
theorem Ap74 {m : Int} : Pu m 11 Aa74 Ar74 := piece (t := [⟨78, Aa4, Ar4⟩, ⟨77, Aa11, Ar11⟩, ⟨129, Aa27, Ar27⟩]) (fns := [77, 78, 129]) (u := [Ae69, Ae70, Ae71, Ae72, Ae73]) (gns := [49]) (ok_all m) (.cons Ap4 (.cons Ap11 (.cons Ap27 .nil))) (.cons Ap69 (.cons Ap70 (.cons Ap71 (.cons Ap72 (.cons Ap73 .nil))))) (Ak74 m) (by kernel_rfl) (by kernel_rfl)
def Aa75 : List FV := [Ao1, Ao29, Ao13]
def Ar75 : FV := (.tup [(.sl 1 [[(.int .i64 (.ofNat 0))], [(.int .i64 (.ofNat 0))], [(.int .i64 (.ofNat 1))], [(.int .i64 (.ofNat 0))], [(.int .i64 (.ofNat 1))]]), (.bool true)])
theorem Ak75 (m : Int) : isV (runP m [⟨78, Aa4, Ar4⟩, ⟨77, Aa11, Ar11⟩, ⟨129, Aa27, Ar27⟩, ⟨11, Aa74, Ar74⟩] [11, 77, 78, 129] [] [] 12 Aa75) Ar75 = true := by kernel_rfl
theorem Ap75 {m : Int} : Pu m 12 Aa75 Ar75 := piece (t := [⟨78, Aa4, Ar4⟩, ⟨77, Aa11, Ar11⟩, ⟨129, Aa27, Ar27⟩, ⟨11, Aa74, Ar74⟩]) (fns := [11, 77, 78, 129]) (u := []) (gns := []) (ok_all m) (.cons Ap4 (.cons Ap11 (.cons Ap27 (.cons Ap74 .nil)))) .nil (Ak75 m) (by kernel_rfl) (by kernel_rfl)
def Ao30 : FV := (.sl 1 [[(.int .i64 (.ofNat 0))], [(.int .i64 (.ofNat 0))], [(.int .i64 (.ofNat 1))], [(.int .i64 (.ofNat 0))], [(.int .i64 (.ofNat 1))]])
def Aa76 : List FV := [Ao29, Ao30, Ao14]
def Ar76 : FV := (.tup [(.bool true), (.bool true)])
theorem Ak76 (m : Int) : isV (runP m [] [] [] [] 13 Aa76) Ar76 = true := by kernel_rfl
theorem Ap76 {m : Int} : Pu m 13 Aa76 Ar76 := piece (t := []) (fns := []) (u := []) (gns := []) (ok_all m) .nil .nil (Ak76 m) (by kernel_rfl) (by kernel_rfl)
def Aa77 : List FV := [Ao29, Ao30, Ao14]
def Ar77 : FV := (.tup [(.bool true), (.bool true)])
theorem Ak77 (m : Int) : isV (runP m [] [] [] [] 14 Aa77) Ar77 = true := by kernel_rfl
theorem Ap77 {m : Int} : Pu m 14 Aa77 Ar77 := piece (t := []) (fns := []) (u := []) (gns := []) (ok_all m) .nil .nil (Ak77 m) (by kernel_rfl) (by kernel_rfl)
def Aa78 : List FV := [Ao0, (.int .i64 (.ofNat 5)), (.sl 4 [[(.int .i64 (.ofNat 4)), (.str []), (.int .i64 (.ofNat 0)), (.nilsl)], [(.int .i64 (.ofNat 1)), (.str []), (.int .i64 (.ofNat 0)), (.nilsl)], [(.int .i64 (.ofNat 1)), (.str []), (.int .i64 (.ofNat 0)), (.nilsl)], [(.int .i64 (.ofNat 1)), (.str []), (.int .i64 (.ofNat 0)), (.nilsl)]])]
def Ar78 : FV := (.tup [(.agg [(.int .i64 (.ofNat 5)), (.str []), (.int .i64 (.ofNat 0)), (.sl 4 [[(.int .i64 (.ofNat 1)), (.str []), (.int .i64 (.ofNat 0)), (.nilsl)], [(.int .i64 (.ofNat 1)), (.str []), (.int .i64 (.ofNat 0)), (.nilsl)], [(.int .i64 (.ofNat 1)), (.str []), (.int .i64 (.ofNat 0)), (.nilsl)], [(.int .i64 (.ofNat 4)), (.str []), (.int .i64 (.ofNat 0)), (.nilsl)]])]), (.bool true)])
theorem Ak78 (m : Int) : isV (runP m [⟨78, Aa4, Ar4⟩, ⟨77, Aa11, Ar11⟩] [77, 78] [] [] 9 Aa78) Ar78 = true := by kernel_rfl
theorem Ap78 {m : Int} : Pu m 9 Aa78 Ar78 := piece (t := [⟨78, Aa4, Ar4⟩, ⟨77, Aa11, Ar11⟩]) (fns := [77, 78]) (u := []) (gns := []) (ok_all m) (.cons Ap4 (.cons Ap11 .nil)) .nil (Ak78 m) (by kernel_rfl) (by kernel_rfl)
def Ao31 : FV := (.agg [(.int .i64 (.ofNat 5)), (.str []), (.int .i64 (.ofNat 0)), (.sl 4 [[(.int .i64 (.ofNat 1)), (.str []), (.int .i64 (.ofNat 0)), (.nilsl)], [(.int .i64 (.ofNat 1)), (.str []), (.int .i64 (.ofNat 0)), (.nilsl)], [(.int .i64 (.ofNat 1)), (.str []), (.int .i64 (.ofNat 0)), (.nilsl)], [(.int .i64 (.ofNat 4)), (.str []), (.int .i64 (.ofNat 0)), (.nilsl)]])])
def Aa79 : List FV := [Ao1, Ao31, (.int .i64 (.ofNat 500))]
def Ar79 : FV := (.tup [(.agg [(.int .i64 (.ofNat 5)), (.str []), (.int .i64 (.ofNat 0)), (.sl 4 [[(.int .i64 (.ofNat 1)), (.str []), (.int .i64 (.ofNat 0)), (.nilsl)], [(.int .i64 (.ofNat 1)), (.str []), (.int .i64 (.ofNat 0)), (.nilsl)], [(.int .i64 (.ofNat 1)), (.str []), (.int .i64 (.ofNat 0)), (.nilsl)], [(.int .i64 (.ofNat 4)), (.str []), (.int .i64 (.ofNat 0)), (.nilsl)]]), (.int .i64 (.ofNat 0)), (.int .i64 (.ofNat 0))]), (.bool true)])
theorem Ak79 (m : Int) : isV (runP m [⟨78, Aa4, Ar4⟩, ⟨77, Aa11, Ar11⟩] [77, 78] [] [] 19 Aa79) Ar79 = true := by kernel_rfl
theorem Ap79 {m : Int} : Pu m 19 Aa79 Ar79 := piece (t := [⟨78, Aa4, Ar4⟩, ⟨77, Aa11, Ar11⟩]) (fns := [77, 78]) (u := []) (gns := []) (ok_all m) (.cons Ap4 (.cons Ap11 .nil)) .nil (Ak79 m) (by kernel_rfl) (by kernel_rfl)
def Aa80 : List FV := [Ao1, Ao31]
def Ar80 : FV := (.tup [(.sl 9 [[(.int .i64 (.ofNat 0)), (.sl 1 [[(.int .i64 (.ofNat 0))]]), (.nilsl), (.nilsl), (.slx 8 []), (.int .i64 (.ofNat 5)), (.str []), (.int .i64 (.ofNat 0)), (.sl 4 [[(.int .i64 (.ofNat 1)), (.str []), (.int .i64 (.ofNat 0)), (.nilsl)], [(.int .i64 (.ofNat 1)), (.str []), (.int .i64 (.ofNat 0)), (.nilsl)], [(.int .i64 (.ofNat 2)), (.str []), (.int .i64 (.ofNat 0)), (.nilsl)], [(.int .i64 (.ofNat 4)), (.str []), (.int .i64 (.ofNat 0)), (.nilsl)]])], [(.int .i64 (.ofNat 0)), (.sl 1 [[(.int .i64 (.ofNat 1))]]), (.nilsl), (.nilsl), (.slx 8 []), (.int .i64 (.ofNat 5)), (.str []), (.int .i64 (.ofNat 0)), (.sl 4 [[(.int .i64 (.ofNat 1)), (.str []), (.int .i64 (.ofNat 0)), (.nilsl)], [(.int .i64 (.ofNat 1)), (.str []), (.int .i64 (.ofNat 0)), (.nilsl)], [(.int .i64 (.ofNat 2)), (.str []), (.int .i64 (.ofNat 0)), (.nilsl)], [(.int .i64 (.ofNat 4)), (.str []), (.int .i64 (.ofNat 0)), (.nilsl)]])], [(.int .i64 (.ofNat 0)), (.sl 1 [[(.int .i64 (.ofNat 2))]]), (.nilsl), (.nilsl), (.slx 8 []), (.int .i64 (.ofNat 5)), (.str []), (.int .i64 (.ofNat 0)), (.sl 4 [[(.int .i64 (.ofNat 1)), (.str []), (.int .i64 (.ofNat 0)), (.nilsl)], [(.int .i64 (.ofNat 1)), (.str []), (.int .i64 (.ofNat 0)), (.nilsl)], [(.int .i64 (.ofNat 2)), (.str []), (.int .i64 (.ofNat 0)), (.nilsl)], [(.int .i64 (.ofNat 4)), (.str []), (.int .i64 (.ofNat 0)), (.nilsl)]])]]), (.bool true)])
theorem Ak80 (m : Int) : isV (runP m [⟨78, Aa4, Ar4⟩, ⟨77, Aa11, Ar11⟩] [77, 78] [] [] 66 Aa80) Ar80 = true := by kernel_rfl
theorem Ap80 {m : Int} : Pu m 66 Aa80 Ar80 := piece (t := [⟨78, Aa4, Ar4⟩, ⟨77, Aa11, Ar11⟩]) (fns := [77, 78]) (u := []) (gns := []) (ok_all m) (.cons Ap4 (.cons Ap11 .nil)) .nil (Ak80 m) (by kernel_rfl) (by kernel_rfl)
def Ao32 : FV := (.agg [(.int .i64 (.ofNat 5)), (.str []), (.int .i64 (.ofNat 0)), (.sl 4 [[(.int .i64 (.ofNat 1)), (.str []), (.int .i64 (.ofNat 0)), (.nilsl)], [(.int .i64 (.ofNat 1)), (.str []), (.int .i64 (.ofNat 0)), (.nilsl)], [(.int .i64 (.ofNat 2)), (.str []), (.int .i64 (.ofNat 0)), (.nilsl)], [(.int .i64 (.ofNat 4)), (.str []), (.int .i64 (.ofNat 0)), (.nilsl)]])])
def Aa81 : List FV := [Ao1, Ao32, (.int .i64 (.ofNat 500))]
def Ar81 : FV := (.tup [(.agg [(.int .i64 (.ofNat 5)), (.str []), (.int .i64 (.ofNat 0)), (.sl 4 [[(.int .i64 (.ofNat 1)), (.str []), (.int .i64 (.ofNat 0)), (.nilsl)], [(.int .i64 (.ofNat 1)), (.str []), (.int .i64 (.ofNat 0)), (.nilsl)], [(.int .i64 (.ofNat 2)), (.str []), (.int .i64 (.ofNat 0)), (.nilsl)], [(.int .i64 (.ofNat 4)), (.str []), (.int .i64 (.ofNat 0)), (.nilsl)]]), (.int .i64 (.ofNat 0)), (.int .i64 (.ofNat 0))]), (.bool true)])
theorem Ak81 (m : Int) : isV (runP m [⟨78, Aa4, Ar4⟩, ⟨77, Aa11, Ar11⟩] [77, 78] [] [] 19 Aa81) Ar81 = true := by kernel_rfl
theorem Ap81 {m : Int} : Pu m 19 Aa81 Ar81 := piece (t := [⟨78, Aa4, Ar4⟩, ⟨77, Aa11, Ar11⟩]) (fns := [77, 78]) (u := []) (gns := []) (ok_all m) (.cons Ap4 (.cons Ap11 .nil)) .nil (Ak81 m) (by kernel_rfl) (by kernel_rfl)
def Ao33 : FV := (.tup [(.sl 4 [[(.int .i64 (.ofNat 5)), (.str []), (.int .i64 (.ofNat 0)), (.sl 4 [[(.int .i64 (.ofNat 1)), (.str []), (.int .i64 (.ofNat 0)), (.nilsl)], [(.int .i64 (.ofNat 1)), (.str []), (.int .i64 (.ofNat 0)), (.nilsl)], [(.int .i64 (.ofNat 2)), (.str []), (.int .i64 (.ofNat 0)), (.nilsl)], [(.int .i64 (.ofNat 4)), (.str []), (.int .i64 (.ofNat 0)), (.nilsl)]])]]), (.bool true)])
def Aa82 : List FV := [Ao1, (.sl 9 [[(.int .i64 (.ofNat 0)), (.sl 1 [[(.int .i64 (.ofNat 0))]]), (.nilsl), (.nilsl), (.slx 8 []), (.int .i64 (.ofNat 5)), (.str []), (.int .i64 (.ofNat 0)), (.sl 4 [[(.int .i64 (.ofNat 1)), (.str []), (.int .i64 (.ofNat 0)), (.nilsl)], [(.int .i64 (.ofNat 1)), (.str []), (.int .i64 (.ofNat 0)), (.nilsl)], [(.int .i64 (.ofNat 2)), (.str []), (.int .i64 (.ofNat 0)), (.nilsl)], [(.int .i64 (.ofNat 4)), (.str []), (.int .i64 (.ofNat 0)), (.nilsl)]])], [(.int .i64 (.ofNat 0)), (.sl 1 [[(.int .i64 (.ofNat 1))]]), (.nilsl), (.nilsl), (.slx 8 []), (.int .i64 (.ofNat 5)), (.str []), (.int .i64 (.ofNat 0)), (.sl 4 [[(.int .i64 (.ofNat 1)), (.str []), (.int .i64 (.ofNat 0)), (.nilsl)], [(.int .i64 (.ofNat 1)), (.str []), (.int .i64 (.ofNat 0)), (.nilsl)], [(.int .i64 (.ofNat 2)), (.str []), (.int .i64 (.ofNat 0)), (.nilsl)], [(.int .i64 (.ofNat 4)), (.str []), (.int .i64 (.ofNat 0)), (.nilsl)]])], [(.int .i64 (.ofNat 0)), (.sl 1 [[(.int .i64 (.ofNat 2))]]), (.nilsl), (.nilsl), (.slx 8 []), (.int .i64 (.ofNat 5)), (.str []), (.int .i64 (.ofNat 0)), (.sl 4 [[(.int .i64 (.ofNat 1)), (.str []), (.int .i64 (.ofNat 0)), (.nilsl)], [(.int .i64 (.ofNat 1)), (.str []), (.int .i64 (.ofNat 0)), (.nilsl)], [(.int .i64 (.ofNat 2)), (.str []), (.int .i64 (.ofNat 0)), (.nilsl)], [(.int .i64 (.ofNat 4)), (.str []), (.int .i64 (.ofNat 0)), (.nilsl)]])]])]
def Ar82 : FV := Ao33
theorem Ak82 (m : Int) : isV (runP m [⟨19, Aa81, Ar81⟩] [19] [] [] 67 Aa82) Ar82 = true := by kernel_rfl
theorem Ap82 {m : Int} : Pu m 67 Aa82 Ar82 := piece (t := [⟨19, Aa81, Ar81⟩]) (fns := [19]) (u := []) (gns := []) (ok_all m) (.cons Ap81 .nil) .nil (Ak82 m) (by kernel_rfl) (by kernel_rfl)
def Aa83 : List FV := [Ao1, Ao31]
def Ar83 : FV := Ao33
theorem Ak83 (m : Int) : isV (runP m [⟨66, Aa80, Ar80⟩, ⟨67, Aa82, Ar82⟩] [66, 67] [] [] 27 Aa83) Ar83 = true := by kernel_rfl
theorem Ap83 {m : Int} : Pu m 27 Aa83 Ar83 := piece (t := [⟨66, Aa80, Ar80⟩, ⟨67, Aa82, Ar82⟩]) (fns := [66, 67]) (u := []) (gns := []) (ok_all m) (.cons Ap80 (.cons Ap82 .nil)) .nil (Ak83 m) (by kernel_rfl) (by kernel_rfl)
def Aa84 : List FV := [Ao1, Ao32]
def Ar84 : FV := (.tup [(.sl 9 [[(.int .i64 (.ofNat 0)), (.sl 1 [[(.int .i64 (.ofNat 0))]]), (.nilsl), (.nilsl), (.slx 8 []), (.int .i64 (.ofNat 5)), (.str []), (.int .i64 (.ofNat 0)), (.sl 4 [[(.int .i64 (.ofNat 1)), (.str []), (.int .i64 (.ofNat 0)), (.nilsl)], [(.int .i64 (.ofNat 2)), (.str []), (.int .i64 (.ofNat 0)), (.nilsl)], [(.int .i64 (.ofNat 2)), (.str []), (.int .i64 (.ofNat 0)), (.nilsl)], [(.int .i64 (.ofNat 4)), (.str []), (.int .i64 (.ofNat 0)), (.nilsl)]])], [(.int .i64 (.ofNat 0)), (.sl 1 [[(.int .i64 (.ofNat 1))]]), (.nilsl), (.nilsl), (.slx 8 []), (.int .i64 (.ofNat 5)), (.str []), (.int .i64 (.ofNat 0)), (.sl 4 [[(.int .i64 (.ofNat 1)), (.str []), (.int .i64 (.ofNat 0)), (.nilsl)], [(.int .i64 (.ofNat 2)), (.str []), (.int .i64 (.ofNat 0)), (.nilsl)], [(.int .i64 (.ofNat 2)), (.str []), (.int .i64 (.ofNat 0)), (.nilsl)], [(.int .i64 (.ofNat 4)), (.str []), (.int .i64 (.ofNat 0)), (.nilsl)]])], [(.int .i64 (.ofNat 1)), (.nilsl), (.sl 4 [[(.int .i64 (.ofNat 1)), (.str []), (.int .i64 (.ofNat 0)), (.nilsl)], [(.int .i64 (.ofNat 1)), (.str []), (.int .i64 (.ofNat 0)), (.nilsl)]]), (.nilsl), (.slx 8 []), (.int .i64 (.ofNat 5)), (.str []), (.int .i64 (.ofNat 0)), (.sl 4 [[(.int .i64 (.ofNat 1)), (.str []), (.int .i64 (.ofNat 0)), (.nilsl)], [(.int .i64 (.ofNat 1)), (.str []), (.int .i64 (.ofNat 0)), (.nilsl)], [(.int .i64 (.ofNat 3)), (.str []), (.int .i64 (.ofNat 0)), (.nilsl)]])]]), (.bool true)])
theorem Ak84 (m : Int) : isV (runP m [⟨78, Aa4, Ar4⟩, ⟨77, Aa11, Ar11⟩] [77, 78] [] [] 66 Aa84) Ar84 = true := by kernel_rfl
theorem Ap84 {m : Int} : Pu m 66 Aa84 Ar84 := piece (t := [⟨78, Aa4, Ar4⟩, ⟨77, Aa11, Ar11⟩]) (fns := [77, 78]) (u := []) (gns := []) (ok_all m) (.cons Ap4 (.cons Ap11 .nil)) .nil (Ak84 m) (by kernel_rfl) (by kernel_rfl)
def Ao34 : FV := (.agg [(.int .i64 (.ofNat 5)), (.str []), (.int .i64 (.ofNat 0)), (.sl 4 [[(.int .i64 (.ofNat 1)), (.str []), (.int .i64 (.ofNat 0)), (.nilsl)], [(.int .i64 (.ofNat 2)), (.str []), (.int .i64 (.ofNat 0)), (.nilsl)], [(.int .i64 (.ofNat 2)), (.str []), (.int .i64 (.ofNat 0)), (.nilsl)], [(.int .i64 (.ofNat 4)), (.str []), (.int .i64 (.ofNat 0)), (.nilsl)]])])
def Aa85 : List FV := [Ao1, Ao34, (.int .i64 (.ofNat 500))]
def Ar85 : FV := (.tup [(.agg [(.int .i64 (.ofNat 5)), (.str []), (.int .i64 (.ofNat 0)), (.sl 4 [[(.int .i64 (.ofNat 1)), (.str []), (.int .i64 (.ofNat 0)), (.nilsl)], [(.int .i64 (.ofNat 2)), (.str []), (.int .i64 (.ofNat 0)), (.nilsl)], [(.int .i64 (.ofNat 2)), (.str []), (.int .i64 (.ofNat 0)), (.nilsl)], [(.int .i64 (.ofNat 4)), (.str []), (.int .i64 (.ofNat 0)), (.nilsl)]]), (.int .i64 (.ofNat 0)), (.int .i64 (.ofNat 0))]), (.bool true)])
theorem Ak85 (m : Int) : isV (runP m [⟨78, Aa4, Ar4⟩, ⟨77, Aa11, Ar11⟩] [77, 78] [] [] 19 Aa85) Ar85 = true := by kernel_rfl
theorem Ap85 {m : Int} : Pu m 19 Aa85 Ar85 := piece (t := [⟨78, Aa4, Ar4⟩, ⟨77, Aa11, Ar11⟩]) (fns := [77, 78]) (u := []) (gns := []) (ok_all m) (.cons Ap4 (.cons Ap11 .nil)) .nil (Ak85 m) (by kernel_rfl) (by kernel_rfl)
end
end Go.Fs
