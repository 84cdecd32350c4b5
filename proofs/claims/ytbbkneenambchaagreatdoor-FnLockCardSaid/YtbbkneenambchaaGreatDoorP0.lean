/- Pieces of a run, tag A, part 0. Conditions: none. -/
import Derived.Test.YtbbkneenambchaaGreatDoorTb

namespace Go.Fs
open Go Go.Proofs
set_option maxRecDepth 100000
noncomputable section
def Aa0 : List FV := [(.str [84, 111, 107])]
def Ar0 : FV := (.bool true)
theorem Ak0 (m : Int) : isV (runP m [] [] [] [] 129 Aa0) Ar0 = true := by kernel_rfl
theorem Ap0 {m : Int} : Pu m 129 Aa0 Ar0 := piece (t := []) (fns := []) (u := []) (gns := []) (ok_all m) .nil .nil (Ak0 m) (by kernel_rfl) (by kernel_rfl)
def Aa1 : List FV := [(.str [83, 111, 117, 112])]
def Ar1 : FV := (.bool true)
theorem Ak1 (m : Int) : isV (runP m [] [] [] [] 129 Aa1) Ar1 = true := by kernel_rfl
theorem Ap1 {m : Int} : Pu m 129 Aa1 Ar1 := piece (t := []) (fns := []) (u := []) (gns := []) (ok_all m) .nil .nil (Ak1 m) (by kernel_rfl) (by kernel_rfl)
def Aa2 : List FV := [(.int .i64 (.ofNat 3))]
def Ar2 : FV := (.sl 1 [[(.int .i64 (.ofNat 0))], [(.int .i64 (.ofNat 1))]])
theorem Ak2 (m : Int) : isV (runP m [] [] [] [] 134 Aa2) Ar2 = true := by kernel_rfl
theorem Ap2 {m : Int} : Pu m 134 Aa2 Ar2 := piece (t := []) (fns := []) (u := []) (gns := []) (ok_all m) .nil .nil (Ak2 m) (by kernel_rfl) (by kernel_rfl)
def Aa3 : List FV := [(.int .i64 (.ofNat 2))]
def Ar3 : FV := (.sl 1 [[(.int .i64 (.ofNat 1))]])
theorem Ak3 (m : Int) : isV (runP m [] [] [] [] 134 Aa3) Ar3 = true := by kernel_rfl
theorem Ap3 {m : Int} : Pu m 134 Aa3 Ar3 := piece (t := []) (fns := []) (u := []) (gns := []) (ok_all m) .nil .nil (Ak3 m) (by kernel_rfl) (by kernel_rfl)
def Aa4 : List FV := [(.agg [(.sl 1 [[(.str [84, 111, 107])], [(.str [83, 111, 117, 112])]]), (.sl 2 [[(.int .i64 (.ofNat 0)), (.int .i64 (.ofNat 1))]])])]
def Ar4 : FV := (.tup [(.agg [(.sl 1 [[(.int .i64 (.ofNat 3))], [(.int .i64 (.ofNat 2))]]), (.sl 1 [[(.int .i64 (.ofNat 1))], [(.int .i64 (.ofNat 3))]]), (.sl 1 [[(.int .i64 (.ofNat 0))], [(.int .i64 (.ofNat 0))]])]), (.bool true)])
theorem Ak4 (m : Int) : isV (runP m [⟨129, Aa0, Ar0⟩, ⟨129, Aa1, Ar1⟩, ⟨134, Aa2, Ar2⟩, ⟨134, Aa3, Ar3⟩] [129, 134] [] [] 78 Aa4) Ar4 = true := by kernel_rfl
theorem Ap4 {m : Int} : Pu m 78 Aa4 Ar4 := piece (t := [⟨129, Aa0, Ar0⟩, ⟨129, Aa1, Ar1⟩, ⟨134, Aa2, Ar2⟩, ⟨134, Aa3, Ar3⟩]) (fns := [129, 134]) (u := []) (gns := []) (ok_all m) (.cons Ap0 (.cons Ap1 (.cons Ap2 (.cons Ap3 .nil)))) .nil (Ak4 m) (by kernel_rfl) (by kernel_rfl)
def Aa5 : List FV := [(.str [110, 111, 110, 101])]
def Ar5 : FV := (.bool true)
theorem Ak5 (m : Int) : isV (runP m [] [] [] [] 129 Aa5) Ar5 = true := by kernel_rfl
theorem Ap5 {m : Int} : Pu m 129 Aa5 Ar5 := piece (t := []) (fns := []) (u := []) (gns := []) (ok_all m) .nil .nil (Ak5 m) (by kernel_rfl) (by kernel_rfl)
def Aa6 : List FV := [(.str [105, 100, 108, 101])]
def Ar6 : FV := (.bool true)
theorem Ak6 (m : Int) : isV (runP m [] [] [] [] 129 Aa6) Ar6 = true := by kernel_rfl
theorem Ap6 {m : Int} : Pu m 129 Aa6 Ar6 := piece (t := []) (fns := []) (u := []) (gns := []) (ok_all m) .nil .nil (Ak6 m) (by kernel_rfl) (by kernel_rfl)
def Aa7 : List FV := [(.str [119, 97, 105, 116])]
def Ar7 : FV := (.bool true)
theorem Ak7 (m : Int) : isV (runP m [] [] [] [] 129 Aa7) Ar7 = true := by kernel_rfl
theorem Ap7 {m : Int} : Pu m 129 Aa7 Ar7 := piece (t := []) (fns := []) (u := []) (gns := []) (ok_all m) .nil .nil (Ak7 m) (by kernel_rfl) (by kernel_rfl)
def Aa8 : List FV := [(.str [99, 114, 105, 116])]
def Ar8 : FV := (.bool true)
theorem Ak8 (m : Int) : isV (runP m [] [] [] [] 129 Aa8) Ar8 = true := by kernel_rfl
theorem Ap8 {m : Int} : Pu m 129 Aa8 Ar8 := piece (t := []) (fns := []) (u := []) (gns := []) (ok_all m) .nil .nil (Ak8 m) (by kernel_rfl) (by kernel_rfl)
def Aa9 : List FV := [(.str [108, 111, 99, 107])]
def Ar9 : FV := (.bool true)
theorem Ak9 (m : Int) : isV (runP m [] [] [] [] 129 Aa9) Ar9 = true := by kernel_rfl
theorem Ap9 {m : Int} : Pu m 129 Aa9 Ar9 := piece (t := []) (fns := []) (u := []) (gns := []) (ok_all m) .nil .nil (Ak9 m) (by kernel_rfl) (by kernel_rfl)
def Aa10 : List FV := [(.str [119, 105, 116, 104])]
def Ar10 : FV := (.bool true)
theorem Ak10 (m : Int) : isV (runP m [] [] [] [] 129 Aa10) Ar10 = true := by kernel_rfl
theorem Ap10 {m : Int} : Pu m 129 Aa10 Ar10 := piece (t := []) (fns := []) (u := []) (gns := []) (ok_all m) .nil .nil (Ak10 m) (by kernel_rfl) (by kernel_rfl)
def Ao0 : FV := (.agg [(.sl 1 [[(.str [84, 111, 107])], [(.str [83, 111, 117, 112])]]), (.sl 2 [[(.int .i64 (.ofNat 0)), (.int .i64 (.ofNat 1))]]), (.sl 5 [[(.str [110, 111, 110, 101]), (.slx 2 [[(.nilsl), (.int .i64 (.ofNat 1))]]), (.bool false), (.bool false), (.int .i64 (.ofNat 0))], [(.str [105, 100, 108, 101]), (.slx 2 [[(.nilsl), (.int .i64 (.ofNat 0))]]), (.bool false), (.bool false), (.int .i64 (.ofNat 0))], [(.str [119, 97, 105, 116]), (.slx 2 [[(.nilsl), (.int .i64 (.ofNat 0))]]), (.bool false), (.bool false), (.int .i64 (.ofNat 0))], [(.str [99, 114, 105, 116]), (.slx 2 [[(.nilsl), (.int .i64 (.ofNat 0))]]), (.bool false), (.bool false), (.int .i64 (.ofNat 0))], [(.str [108, 111, 99, 107]), (.slx 2 [[(.nilsl), (.int .i64 (.ofNat 0))]]), (.bool false), (.bool false), (.int .i64 (.ofNat 0))], [(.str [119, 105, 116, 104]), (.slx 2 [[(.sl 1 [[(.int .i64 (.ofNat 1))], [(.int .i64 (.ofNat 1))]]), (.int .i64 (.ofNat 1))]]), (.bool true), (.bool true), (.int .i64 (.ofNat 1))]])])
def Aa11 : List FV := [Ao0]
def Ar11 : FV := (.bool true)
theorem Ak11 (m : Int) : isV (runP m [⟨78, Aa4, Ar4⟩, ⟨129, Aa5, Ar5⟩, ⟨129, Aa6, Ar6⟩, ⟨129, Aa7, Ar7⟩, ⟨129, Aa8, Ar8⟩, ⟨129, Aa9, Ar9⟩, ⟨129, Aa10, Ar10⟩] [78, 129] [] [] 77 Aa11) Ar11 = true := by kernel_rfl
theorem Ap11 {m : Int} : Pu m 77 Aa11 Ar11 := piece (t := [⟨78, Aa4, Ar4⟩, ⟨129, Aa5, Ar5⟩, ⟨129, Aa6, Ar6⟩, ⟨129, Aa7, Ar7⟩, ⟨129, Aa8, Ar8⟩, ⟨129, Aa9, Ar9⟩, ⟨129, Aa10, Ar10⟩]) (fns := [78, 129]) (u := []) (gns := []) (ok_all m) (.cons Ap4 (.cons Ap5 (.cons Ap6 (.cons Ap7 (.cons Ap8 (.cons Ap9 (.cons Ap10 .nil))))))) .nil (Ak11 m) (by kernel_rfl) (by kernel_rfl)
def Aa12 : List FV := [(.int .i64 (.ofNat 6))]
def Ar12 : FV := (.tup [(.agg [(.sl 1 [[(.str [84, 111, 107])], [(.str [83, 111, 117, 112])]]), (.sl 2 [[(.int .i64 (.ofNat 0)), (.int .i64 (.ofNat 1))]]), (.sl 5 [[(.str [110, 111, 110, 101]), (.slx 2 [[(.nilsl), (.int .i64 (.ofNat 1))]]), (.bool false), (.bool false), (.int .i64 (.ofNat 0))], [(.str [105, 100, 108, 101]), (.slx 2 [[(.nilsl), (.int .i64 (.ofNat 0))]]), (.bool false), (.bool false), (.int .i64 (.ofNat 0))], [(.str [119, 97, 105, 116]), (.slx 2 [[(.nilsl), (.int .i64 (.ofNat 0))]]), (.bool false), (.bool false), (.int .i64 (.ofNat 0))], [(.str [99, 114, 105, 116]), (.slx 2 [[(.nilsl), (.int .i64 (.ofNat 0))]]), (.bool false), (.bool false), (.int .i64 (.ofNat 0))], [(.str [108, 111, 99, 107]), (.slx 2 [[(.nilsl), (.int .i64 (.ofNat 0))]]), (.bool false), (.bool false), (.int .i64 (.ofNat 0))], [(.str [119, 105, 116, 104]), (.slx 2 [[(.sl 1 [[(.int .i64 (.ofNat 1))], [(.int .i64 (.ofNat 1))]]), (.int .i64 (.ofNat 1))]]), (.bool true), (.bool true), (.int .i64 (.ofNat 1))]]), (.nilsl), (.sl 9 [[(.int .i64 (.ofNat 1)), (.str []), (.int .i64 (.ofNat 0)), (.nilsl), (.int .i64 (.ofNat 2)), (.str []), (.int .i64 (.ofNat 0)), (.nilsl), (.nilsl)], [(.int .i64 (.ofNat 5)), (.str []), (.int .i64 (.ofNat 0)), (.sl 4 [[(.int .i64 (.ofNat 2)), (.str []), (.int .i64 (.ofNat 0)), (.nilsl)], [(.int .i64 (.ofNat 4)), (.str []), (.int .i64 (.ofNat 0)), (.nilsl)]]), (.int .i64 (.ofNat 3)), (.str []), (.int .i64 (.ofNat 0)), (.nilsl), (.nilsl)], [(.int .i64 (.ofNat 3)), (.str []), (.int .i64 (.ofNat 0)), (.nilsl), (.int .i64 (.ofNat 5)), (.str []), (.int .i64 (.ofNat 0)), (.sl 4 [[(.int .i64 (.ofNat 1)), (.str []), (.int .i64 (.ofNat 0)), (.nilsl)], [(.int .i64 (.ofNat 4)), (.str []), (.int .i64 (.ofNat 0)), (.nilsl)]]), (.nilsl)]])]), (.bool true)])
theorem Ak12 (m : Int) : isV (runP m [⟨78, Aa4, Ar4⟩, ⟨77, Aa11, Ar11⟩] [77, 78] [] [] 7 Aa12) Ar12 = true := by kernel_rfl
theorem Ap12 {m : Int} : Pu m 7 Aa12 Ar12 := piece (t := [⟨78, Aa4, Ar4⟩, ⟨77, Aa11, Ar11⟩]) (fns := [77, 78]) (u := []) (gns := []) (ok_all m) (.cons Ap4 (.cons Ap11 .nil)) .nil (Ak12 m) (by kernel_rfl) (by kernel_rfl)
def Aa13 : List FV := [Ao0, (.int .i64 (.ofNat 5)), (.sl 4 [[(.int .i64 (.ofNat 4)), (.str []), (.int .i64 (.ofNat 0)), (.nilsl)], [(.int .i64 (.ofNat 1)), (.str []), (.int .i64 (.ofNat 0)), (.nilsl)]])]
def Ar13 : FV := (.tup [(.agg [(.int .i64 (.ofNat 5)), (.str []), (.int .i64 (.ofNat 0)), (.sl 4 [[(.int .i64 (.ofNat 1)), (.str []), (.int .i64 (.ofNat 0)), (.nilsl)], [(.int .i64 (.ofNat 4)), (.str []), (.int .i64 (.ofNat 0)), (.nilsl)]])]), (.bool true)])
theorem Ak13 (m : Int) : isV (runP m [⟨78, Aa4, Ar4⟩, ⟨77, Aa11, Ar11⟩] [77, 78] [] [] 9 Aa13) Ar13 = true := by kernel_rfl
theorem Ap13 {m : Int} : Pu m 9 Aa13 Ar13 := piece (t := [⟨78, Aa4, Ar4⟩, ⟨77, Aa11, Ar11⟩]) (fns := [77, 78]) (u := []) (gns := []) (ok_all m) (.cons Ap4 (.cons Ap11 .nil)) .nil (Ak13 m) (by kernel_rfl) (by kernel_rfl)
def Ao1 : FV := (.agg [(.sl 1 [[(.str [84, 111, 107])], [(.str [83, 111, 117, 112])]]), (.sl 2 [[(.int .i64 (.ofNat 0)), (.int .i64 (.ofNat 1))]]), (.sl 5 [[(.str [110, 111, 110, 101]), (.slx 2 [[(.nilsl), (.int .i64 (.ofNat 1))]]), (.bool false), (.bool false), (.int .i64 (.ofNat 0))], [(.str [105, 100, 108, 101]), (.slx 2 [[(.nilsl), (.int .i64 (.ofNat 0))]]), (.bool false), (.bool false), (.int .i64 (.ofNat 0))], [(.str [119, 97, 105, 116]), (.slx 2 [[(.nilsl), (.int .i64 (.ofNat 0))]]), (.bool false), (.bool false), (.int .i64 (.ofNat 0))], [(.str [99, 114, 105, 116]), (.slx 2 [[(.nilsl), (.int .i64 (.ofNat 0))]]), (.bool false), (.bool false), (.int .i64 (.ofNat 0))], [(.str [108, 111, 99, 107]), (.slx 2 [[(.nilsl), (.int .i64 (.ofNat 0))]]), (.bool false), (.bool false), (.int .i64 (.ofNat 0))], [(.str [119, 105, 116, 104]), (.slx 2 [[(.sl 1 [[(.int .i64 (.ofNat 1))], [(.int .i64 (.ofNat 1))]]), (.int .i64 (.ofNat 1))]]), (.bool true), (.bool true), (.int .i64 (.ofNat 1))]]), (.nilsl), (.sl 9 [[(.int .i64 (.ofNat 1)), (.str []), (.int .i64 (.ofNat 0)), (.nilsl), (.int .i64 (.ofNat 2)), (.str []), (.int .i64 (.ofNat 0)), (.nilsl), (.nilsl)], [(.int .i64 (.ofNat 5)), (.str []), (.int .i64 (.ofNat 0)), (.sl 4 [[(.int .i64 (.ofNat 2)), (.str []), (.int .i64 (.ofNat 0)), (.nilsl)], [(.int .i64 (.ofNat 4)), (.str []), (.int .i64 (.ofNat 0)), (.nilsl)]]), (.int .i64 (.ofNat 3)), (.str []), (.int .i64 (.ofNat 0)), (.nilsl), (.nilsl)], [(.int .i64 (.ofNat 3)), (.str []), (.int .i64 (.ofNat 0)), (.nilsl), (.int .i64 (.ofNat 5)), (.str []), (.int .i64 (.ofNat 0)), (.sl 4 [[(.int .i64 (.ofNat 1)), (.str []), (.int .i64 (.ofNat 0)), (.nilsl)], [(.int .i64 (.ofNat 4)), (.str []), (.int .i64 (.ofNat 0)), (.nilsl)]]), (.nilsl)]])])
def Ao2 : FV := (.agg [(.int .i64 (.ofNat 5)), (.str []), (.int .i64 (.ofNat 0)), (.sl 4 [[(.int .i64 (.ofNat 1)), (.str []), (.int .i64 (.ofNat 0)), (.nilsl)], [(.int .i64 (.ofNat 4)), (.str []), (.int .i64 (.ofNat 0)), (.nilsl)]])])
def Aa14 : List FV := [Ao1, Ao2, (.int .i64 (.ofNat 500))]
def Ar14 : FV := (.tup [(.agg [(.int .i64 (.ofNat 5)), (.str []), (.int .i64 (.ofNat 0)), (.sl 4 [[(.int .i64 (.ofNat 1)), (.str []), (.int .i64 (.ofNat 0)), (.nilsl)], [(.int .i64 (.ofNat 4)), (.str []), (.int .i64 (.ofNat 0)), (.nilsl)]]), (.int .i64 (.ofNat 0)), (.int .i64 (.ofNat 0))]), (.bool true)])
theorem Ak14 (m : Int) : isV (runP m [⟨78, Aa4, Ar4⟩, ⟨77, Aa11, Ar11⟩] [77, 78] [] [] 19 Aa14) Ar14 = true := by kernel_rfl
theorem Ap14 {m : Int} : Pu m 19 Aa14 Ar14 := piece (t := [⟨78, Aa4, Ar4⟩, ⟨77, Aa11, Ar11⟩]) (fns := [77, 78]) (u := []) (gns := []) (ok_all m) (.cons Ap4 (.cons Ap11 .nil)) .nil (Ak14 m) (by kernel_rfl) (by kernel_rfl)
def Aa15 : List FV := [Ao1, Ao2]
def Ar15 : FV := (.tup [(.sl 9 [[(.int .i64 (.ofNat 0)), (.sl 1 [[(.int .i64 (.ofNat 0))]]), (.nilsl), (.nilsl), (.slx 8 []), (.int .i64 (.ofNat 5)), (.str []), (.int .i64 (.ofNat 0)), (.sl 4 [[(.int .i64 (.ofNat 2)), (.str []), (.int .i64 (.ofNat 0)), (.nilsl)], [(.int .i64 (.ofNat 4)), (.str []), (.int .i64 (.ofNat 0)), (.nilsl)]])]]), (.bool true)])
theorem Ak15 (m : Int) : isV (runP m [⟨78, Aa4, Ar4⟩, ⟨77, Aa11, Ar11⟩] [77, 78] [] [] 66 Aa15) Ar15 = true := by kernel_rfl
theorem Ap15 {m : Int} : Pu m 66 Aa15 Ar15 := piece (t := [⟨78, Aa4, Ar4⟩, ⟨77, Aa11, Ar11⟩]) (fns := [77, 78]) (u := []) (gns := []) (ok_all m) (.cons Ap4 (.cons Ap11 .nil)) .nil (Ak15 m) (by kernel_rfl) (by kernel_rfl)
def Ao3 : FV := (.agg [(.int .i64 (.ofNat 5)), (.str []), (.int .i64 (.ofNat 0)), (.sl 4 [[(.int .i64 (.ofNat 2)), (.str []), (.int .i64 (.ofNat 0)), (.nilsl)], [(.int .i64 (.ofNat 4)), (.str []), (.int .i64 (.ofNat 0)), (.nilsl)]])])
def Aa16 : List FV := [Ao1, Ao3, (.int .i64 (.ofNat 500))]
def Ar16 : FV := (.tup [(.agg [(.int .i64 (.ofNat 5)), (.str []), (.int .i64 (.ofNat 0)), (.sl 4 [[(.int .i64 (.ofNat 2)), (.str []), (.int .i64 (.ofNat 0)), (.nilsl)], [(.int .i64 (.ofNat 4)), (.str []), (.int .i64 (.ofNat 0)), (.nilsl)]]), (.int .i64 (.ofNat 0)), (.int .i64 (.ofNat 0))]), (.bool true)])
theorem Ak16 (m : Int) : isV (runP m [⟨78, Aa4, Ar4⟩, ⟨77, Aa11, Ar11⟩] [77, 78] [] [] 19 Aa16) Ar16 = true := by kernel_rfl
theorem Ap16 {m : Int} : Pu m 19 Aa16 Ar16 := piece (t := [⟨78, Aa4, Ar4⟩, ⟨77, Aa11, Ar11⟩]) (fns := [77, 78]) (u := []) (gns := []) (ok_all m) (.cons Ap4 (.cons Ap11 .nil)) .nil (Ak16 m) (by kernel_rfl) (by kernel_rfl)
def Ao4 : FV := (.tup [(.sl 4 [[(.int .i64 (.ofNat 5)), (.str []), (.int .i64 (.ofNat 0)), (.sl 4 [[(.int .i64 (.ofNat 2)), (.str []), (.int .i64 (.ofNat 0)), (.nilsl)], [(.int .i64 (.ofNat 4)), (.str []), (.int .i64 (.ofNat 0)), (.nilsl)]])]]), (.bool true)])
def Aa17 : List FV := [Ao1, (.sl 9 [[(.int .i64 (.ofNat 0)), (.sl 1 [[(.int .i64 (.ofNat 0))]]), (.nilsl), (.nilsl), (.slx 8 []), (.int .i64 (.ofNat 5)), (.str []), (.int .i64 (.ofNat 0)), (.sl 4 [[(.int .i64 (.ofNat 2)), (.str []), (.int .i64 (.ofNat 0)), (.nilsl)], [(.int .i64 (.ofNat 4)), (.str []), (.int .i64 (.ofNat 0)), (.nilsl)]])]])]
def Ar17 : FV := Ao4
theorem Ak17 (m : Int) : isV (runP m [⟨19, Aa16, Ar16⟩] [19] [] [] 67 Aa17) Ar17 = true := by kernel_rfl
theorem Ap17 {m : Int} : Pu m 67 Aa17 Ar17 := piece (t := [⟨19, Aa16, Ar16⟩]) (fns := [19]) (u := []) (gns := []) (ok_all m) (.cons Ap16 .nil) .nil (Ak17 m) (by kernel_rfl) (by kernel_rfl)
def Aa18 : List FV := [Ao1, Ao2]
def Ar18 : FV := Ao4
theorem Ak18 (m : Int) : isV (runP m [⟨66, Aa15, Ar15⟩, ⟨67, Aa17, Ar17⟩] [66, 67] [] [] 27 Aa18) Ar18 = true := by kernel_rfl
theorem Ap18 {m : Int} : Pu m 27 Aa18 Ar18 := piece (t := [⟨66, Aa15, Ar15⟩, ⟨67, Aa17, Ar17⟩]) (fns := [66, 67]) (u := []) (gns := []) (ok_all m) (.cons Ap15 (.cons Ap17 .nil)) .nil (Ak18 m) (by kernel_rfl) (by kernel_rfl)
def Aa19 : List FV := [Ao1, Ao3]
def Ar19 : FV := (.tup [(.sl 9 [[(.int .i64 (.ofNat 1)), (.nilsl), (.nilsl), (.nilsl), (.slx 8 []), (.int .i64 (.ofNat 3)), (.str []), (.int .i64 (.ofNat 0)), (.nilsl)]]), (.bool true)])
theorem Ak19 (m : Int) : isV (runP m [⟨78, Aa4, Ar4⟩, ⟨77, Aa11, Ar11⟩] [77, 78] [] [] 66 Aa19) Ar19 = true := by kernel_rfl
theorem Ap19 {m : Int} : Pu m 66 Aa19 Ar19 := piece (t := [⟨78, Aa4, Ar4⟩, ⟨77, Aa11, Ar11⟩]) (fns := [77, 78]) (u := []) (gns := []) (ok_all m) (.cons Ap4 (.cons Ap11 .nil)) .nil (Ak19 m) (by kernel_rfl) (by kernel_rfl)
def Aa20 : List FV := [Ao1, (.agg [(.int .i64 (.ofNat 3)), (.str []), (.int .i64 (.ofNat 0)), (.nilsl)]), (.int .i64 (.ofNat 500))]
def Ar20 : FV := (.tup [(.agg [(.int .i64 (.ofNat 3)), (.str []), (.int .i64 (.ofNat 0)), (.nilsl), (.int .i64 (.ofNat 0)), (.int .i64 (.ofNat 0))]), (.bool true)])
theorem Ak20 (m : Int) : isV (runP m [⟨78, Aa4, Ar4⟩, ⟨77, Aa11, Ar11⟩] [77, 78] [] [] 19 Aa20) Ar20 = true := by kernel_rfl
theorem Ap20 {m : Int} : Pu m 19 Aa20 Ar20 := piece (t := [⟨78, Aa4, Ar4⟩, ⟨77, Aa11, Ar11⟩]) (fns := [77, 78]) (u := []) (gns := []) (ok_all m) (.cons Ap4 (.cons Ap11 .nil)) .nil (Ak20 m) (by kernel_rfl) (by kernel_rfl)
def Aa21 : List FV := [Ao1, (.sl 9 [[(.int .i64 (.ofNat 1)), (.nilsl), (.nilsl), (.nilsl), (.slx 8 []), (.int .i64 (.ofNat 3)), (.str []), (.int .i64 (.ofNat 0)), (.nilsl)]])]
def Ar21 : FV := (.tup [(.sl 4 [[(.int .i64 (.ofNat 3)), (.str []), (.int .i64 (.ofNat 0)), (.nilsl)]]), (.bool true)])
theorem Ak21 (m : Int) : isV (runP m [⟨19, Aa20, Ar20⟩] [19] [] [] 67 Aa21) Ar21 = true := by kernel_rfl
theorem Ap21 {m : Int} : Pu m 67 Aa21 Ar21 := piece (t := [⟨19, Aa20, Ar20⟩]) (fns := [19]) (u := []) (gns := []) (ok_all m) (.cons Ap20 .nil) .nil (Ak21 m) (by kernel_rfl) (by kernel_rfl)
def Aa22 : List FV := [Ao1, Ao3]
def Ar22 : FV := (.tup [(.sl 4 [[(.int .i64 (.ofNat 3)), (.str []), (.int .i64 (.ofNat 0)), (.nilsl)]]), (.bool true)])
theorem Ak22 (m : Int) : isV (runP m [⟨66, Aa19, Ar19⟩, ⟨67, Aa21, Ar21⟩] [66, 67] [] [] 27 Aa22) Ar22 = true := by kernel_rfl
theorem Ap22 {m : Int} : Pu m 27 Aa22 Ar22 := piece (t := [⟨66, Aa19, Ar19⟩, ⟨67, Aa21, Ar21⟩]) (fns := [66, 67]) (u := []) (gns := []) (ok_all m) (.cons Ap19 (.cons Ap21 .nil)) .nil (Ak22 m) (by kernel_rfl) (by kernel_rfl)
def Aa23 : List FV := [Ao1, (.agg [(.int .i64 (.ofNat 3)), (.str []), (.int .i64 (.ofNat 0)), (.nilsl)])]
def Ar23 : FV := (.tup [(.sl 9 [[(.int .i64 (.ofNat 2)), (.nilsl), (.nilsl), (.nilsl), (.slx 8 []), (.int .i64 (.ofNat 5)), (.str []), (.int .i64 (.ofNat 0)), (.sl 4 [[(.int .i64 (.ofNat 1)), (.str []), (.int .i64 (.ofNat 0)), (.nilsl)], [(.int .i64 (.ofNat 4)), (.str []), (.int .i64 (.ofNat 0)), (.nilsl)]])]]), (.bool true)])
theorem Ak23 (m : Int) : isV (runP m [⟨78, Aa4, Ar4⟩, ⟨77, Aa11, Ar11⟩] [77, 78] [] [] 66 Aa23) Ar23 = true := by kernel_rfl
theorem Ap23 {m : Int} : Pu m 66 Aa23 Ar23 := piece (t := [⟨78, Aa4, Ar4⟩, ⟨77, Aa11, Ar11⟩]) (fns := [77, 78]) (u := []) (gns := []) (ok_all m) (.cons Ap4 (.cons Ap11 .nil)) .nil (Ak23 m) (by kernel_rfl) (by kernel_rfl)
def Ao5 : FV := (.tup [(.sl 4 [[(.int .i64 (.ofNat 5)), (.str []), (.int .i64 (.ofNat 0)), (.sl 4 [[(.int .i64 (.ofNat 1)), (.str []), (.int .i64 (.ofNat 0)), (.nilsl)], [(.int .i64 (.ofNat 4)), (.str []), (.int .i64 (.ofNat 0)), (.nilsl)]])]]), (.bool true)])
def Aa24 : List FV := [Ao1, (.sl 9 [[(.int .i64 (.ofNat 2)), (.nilsl), (.nilsl), (.nilsl), (.slx 8 []), (.int .i64 (.ofNat 5)), (.str []), (.int .i64 (.ofNat 0)), (.sl 4 [[(.int .i64 (.ofNat 1)), (.str []), (.int .i64 (.ofNat 0)), (.nilsl)], [(.int .i64 (.ofNat 4)), (.str []), (.int .i64 (.ofNat 0)), (.nilsl)]])]])]
def Ar24 : FV := Ao5
theorem Ak24 (m : Int) : isV (runP m [⟨19, Aa14, Ar14⟩] [19] [] [] 67 Aa24) Ar24 = true := by kernel_rfl
theorem Ap24 {m : Int} : Pu m 67 Aa24 Ar24 := piece (t := [⟨19, Aa14, Ar14⟩]) (fns := [19]) (u := []) (gns := []) (ok_all m) (.cons Ap14 .nil) .nil (Ak24 m) (by kernel_rfl) (by kernel_rfl)
def Aa25 : List FV := [Ao1, (.agg [(.int .i64 (.ofNat 3)), (.str []), (.int .i64 (.ofNat 0)), (.nilsl)])]
def Ar25 : FV := Ao5
theorem Ak25 (m : Int) : isV (runP m [⟨66, Aa23, Ar23⟩, ⟨67, Aa24, Ar24⟩] [66, 67] [] [] 27 Aa25) Ar25 = true := by kernel_rfl
theorem Ap25 {m : Int} : Pu m 27 Aa25 Ar25 := piece (t := [⟨66, Aa23, Ar23⟩, ⟨67, Aa24, Ar24⟩]) (fns := [66, 67]) (u := []) (gns := []) (ok_all m) (.cons Ap23 (.cons Ap24 .nil)) .nil (Ak25 m) (by kernel_rfl) (by kernel_rfl)
def Aa26 : List FV := [Ao1, Ao2, (.int .i64 (.ofNat 40))]
def Ar26 : FV := (.tup [(.agg [(.sl 4 [[(.int .i64 (.ofNat 5)), (.str []), (.int .i64 (.ofNat 0)), (.sl 4 [[(.int .i64 (.ofNat 1)), (.str []), (.int .i64 (.ofNat 0)), (.nilsl)], [(.int .i64 (.ofNat 4)), (.str []), (.int .i64 (.ofNat 0)), (.nilsl)]])], [(.int .i64 (.ofNat 5)), (.str []), (.int .i64 (.ofNat 0)), (.sl 4 [[(.int .i64 (.ofNat 2)), (.str []), (.int .i64 (.ofNat 0)), (.nilsl)], [(.int .i64 (.ofNat 4)), (.str []), (.int .i64 (.ofNat 0)), (.nilsl)]])], [(.int .i64 (.ofNat 3)), (.str []), (.int .i64 (.ofNat 0)), (.nilsl)]]), (.sl 1 [[(.sl 1 [[(.int .i64 (.ofNat 1))]])], [(.sl 1 [[(.int .i64 (.ofNat 2))]])], [(.sl 1 [[(.int .i64 (.ofNat 0))]])]]), (.bool true)]), (.bool true)])
theorem Ak26 (m : Int) : isV (runP m [⟨19, Aa14, Ar14⟩, ⟨27, Aa18, Ar18⟩, ⟨27, Aa22, Ar22⟩, ⟨27, Aa25, Ar25⟩] [19, 27] [] [] 10 Aa26) Ar26 = true := by kernel_rfl
theorem Ap26 {m : Int} : Pu m 10 Aa26 Ar26 := piece (t := [⟨19, Aa14, Ar14⟩, ⟨27, Aa18, Ar18⟩, ⟨27, Aa22, Ar22⟩, ⟨27, Aa25, Ar25⟩]) (fns := [19, 27]) (u := []) (gns := []) (ok_all m) (.cons Ap14 (.cons Ap18 (.cons Ap22 (.cons Ap25 .nil)))) .nil (Ak26 m) (by kernel_rfl) (by kernel_rfl)
def Aa27 : List FV := [(.str [120])]
def Ar27 : FV := (.bool true)
theorem Ak27 (m : Int) : isV (runP m [] [] [] [] 129 Aa27) Ar27 = true := by kernel_rfl
theorem Ap27 {m : Int} : Pu m 129 Aa27 Ar27 := piece (t := []) (fns := []) (u := []) (gns := []) (ok_all m) .nil .nil (Ak27 m) (by kernel_rfl) (by kernel_rfl)
def Aa28 : List FV := [Ao0, (.int .i64 (.ofNat 5)), (.slx 4 [[(.int .i64 (.ofNat 3)), (.str []), (.int .i64 (.ofNat 0)), (.nilsl)], [(.int .i64 (.ofNat 3)), (.str []), (.int .i64 (.ofNat 0)), (.nilsl)], [(.int .i64 (.negSucc 0)), (.str [120]), (.int .i64 (.ofNat 1)), (.nilsl)]])]
def Ar28 : FV := (.tup [(.agg [(.int .i64 (.ofNat 5)), (.str []), (.int .i64 (.ofNat 0)), (.sl 4 [[(.int .i64 (.negSucc 0)), (.str [120]), (.int .i64 (.ofNat 1)), (.nilsl)], [(.int .i64 (.ofNat 3)), (.str []), (.int .i64 (.ofNat 0)), (.nilsl)], [(.int .i64 (.ofNat 3)), (.str []), (.int .i64 (.ofNat 0)), (.nilsl)]])]), (.bool true)])
theorem Ak28 (m : Int) : isV (runP m [⟨78, Aa4, Ar4⟩, ⟨77, Aa11, Ar11⟩, ⟨129, Aa27, Ar27⟩] [77, 78, 129] [] [] 9 Aa28) Ar28 = true := by kernel_rfl
theorem Ap28 {m : Int} : Pu m 9 Aa28 Ar28 := piece (t := [⟨78, Aa4, Ar4⟩, ⟨77, Aa11, Ar11⟩, ⟨129, Aa27, Ar27⟩]) (fns := [77, 78, 129]) (u := []) (gns := []) (ok_all m) (.cons Ap4 (.cons Ap11 (.cons Ap27 .nil))) .nil (Ak28 m) (by kernel_rfl) (by kernel_rfl)
def Aa29 : List FV := [Ao0, (.int .i64 (.ofNat 5)), (.slx 4 [[(.int .i64 (.ofNat 3)), (.str []), (.int .i64 (.ofNat 0)), (.nilsl)], [(.int .i64 (.negSucc 0)), (.str [120]), (.int .i64 (.ofNat 1)), (.nilsl)]])]
def Ar29 : FV := (.tup [(.agg [(.int .i64 (.ofNat 5)), (.str []), (.int .i64 (.ofNat 0)), (.sl 4 [[(.int .i64 (.negSucc 0)), (.str [120]), (.int .i64 (.ofNat 1)), (.nilsl)], [(.int .i64 (.ofNat 3)), (.str []), (.int .i64 (.ofNat 0)), (.nilsl)]])]), (.bool true)])
theorem Ak29 (m : Int) : isV (runP m [⟨78, Aa4, Ar4⟩, ⟨77, Aa11, Ar11⟩, ⟨129, Aa27, Ar27⟩] [77, 78, 129] [] [] 9 Aa29) Ar29 = true := by kernel_rfl
theorem Ap29 {m : Int} : Pu m 9 Aa29 Ar29 := piece (t := [⟨78, Aa4, Ar4⟩, ⟨77, Aa11, Ar11⟩, ⟨129, Aa27, Ar27⟩]) (fns := [77, 78, 129]) (u := []) (gns := []) (ok_all m) (.cons Ap4 (.cons Ap11 (.cons Ap27 .nil))) .nil (Ak29 m) (by kernel_rfl) (by kernel_rfl)
def Ao6 : FV := (.agg [(.int .i64 (.ofNat 5)), (.str []), (.int .i64 (.ofNat 0)), (.sl 4 [[(.int .i64 (.negSucc 0)), (.str [120]), (.int .i64 (.ofNat 1)), (.nilsl)], [(.int .i64 (.ofNat 3)), (.str []), (.int .i64 (.ofNat 0)), (.nilsl)], [(.int .i64 (.ofNat 3)), (.str []), (.int .i64 (.ofNat 0)), (.nilsl)]])])
def Ao7 : FObj := (.row 7 0 [[(.sl 1 [[(.int .i64 (.ofNat 3))], [(.int .i64 (.ofNat 2))]]), (.sl 1 [[(.int .i64 (.ofNat 1))], [(.int .i64 (.ofNat 3))]]), (.sl 1 [[(.int .i64 (.ofNat 0))], [(.int .i64 (.ofNat 0))]]), (.sl 1 [[(.str [84, 111, 107])], [(.str [83, 111, 117, 112])]]), (.sl 2 [[(.int .i64 (.ofNat 0)), (.int .i64 (.ofNat 1))]]), (.sl 5 [[(.str [110, 111, 110, 101]), (.slx 2 [[(.nilsl), (.int .i64 (.ofNat 1))]]), (.bool false), (.bool false), (.int .i64 (.ofNat 0))], [(.str [105, 100, 108, 101]), (.slx 2 [[(.nilsl), (.int .i64 (.ofNat 0))]]), (.bool false), (.bool false), (.int .i64 (.ofNat 0))], [(.str [119, 97, 105, 116]), (.slx 2 [[(.nilsl), (.int .i64 (.ofNat 0))]]), (.bool false), (.bool false), (.int .i64 (.ofNat 0))], [(.str [99, 114, 105, 116]), (.slx 2 [[(.nilsl), (.int .i64 (.ofNat 0))]]), (.bool false), (.bool false), (.int .i64 (.ofNat 0))], [(.str [108, 111, 99, 107]), (.slx 2 [[(.nilsl), (.int .i64 (.ofNat 0))]]), (.bool false), (.bool false), (.int .i64 (.ofNat 0))], [(.str [119, 105, 116, 104]), (.slx 2 [[(.sl 1 [[(.int .i64 (.ofNat 1))], [(.int .i64 (.ofNat 1))]]), (.int .i64 (.ofNat 1))]]), (.bool true), (.bool true), (.int .i64 (.ofNat 1))]]), (.rmp 5)]])
def Ao8 : FObj := (.map [((.str [48, 40, 41]), (.int .i64 (.ofNat 2))), ((.str [49, 40, 41]), (.int .i64 (.ofNat 3))), ((.str [52, 40, 41]), (.int .i64 (.ofNat 3))), ((.str [53, 40, 49, 40, 41, 52, 40, 41, 41]), (.int .i64 (.ofNat 2)))])
def Ae30 : Ent4 := ⟨49, [(.rp 7 6 0 0), Ao6, Ao2], [(5, (.map [])), (6, Ao7)], 212, (.bool false), [(5, Ao8), (6, Ao7)], 524⟩
theorem Ak30 (m : Int) : chk4 (callG m [] [] [] []) Ae30 = true := by kernel_rfl
theorem Ap30 {m : Int} : Cu m Ae30 := piece4 (t := []) (fns := []) (u := []) (gns := []) (ok_all m) .nil .nil (Ak30 m)
def Ao9 : FObj := (.map [((.str [48, 40, 41]), (.int .i64 (.ofNat 2))), ((.str [49, 40, 41]), (.int .i64 (.ofNat 3))), ((.str [52, 40, 41]), (.int .i64 (.ofNat 3))), ((.str [53, 40, 49, 40, 41, 52, 40, 41, 41]), (.int .i64 (.ofNat 2))), ((.str [50, 40, 41]), (.int .i64 (.ofNat 3))), ((.str [53, 40, 50, 40, 41, 52, 40, 41, 41]), (.int .i64 (.ofNat 2)))])
def Ae31 : Ent4 := ⟨49, [(.rp 7 6 0 0), Ao6, Ao3], [(5, Ao8), (6, Ao7)], 552, (.bool false), [(5, Ao9), (6, Ao7)], 860⟩
theorem Ak31 (m : Int) : chk4 (callG m [] [] [] []) Ae31 = true := by kernel_rfl
theorem Ap31 {m : Int} : Cu m Ae31 := piece4 (t := []) (fns := []) (u := []) (gns := []) (ok_all m) .nil .nil (Ak31 m)
def Ao10 : FObj := (.map [((.str [48, 40, 41]), (.int .i64 (.ofNat 2))), ((.str [49, 40, 41]), (.int .i64 (.ofNat 3))), ((.str [52, 40, 41]), (.int .i64 (.ofNat 3))), ((.str [53, 40, 49, 40, 41, 52, 40, 41, 41]), (.int .i64 (.ofNat 2))), ((.str [50, 40, 41]), (.int .i64 (.ofNat 3))), ((.str [53, 40, 50, 40, 41, 52, 40, 41, 41]), (.int .i64 (.ofNat 2))), ((.str [51, 40, 41]), (.int .i64 (.ofNat 3)))])
def Ae32 : Ent4 := ⟨49, [(.rp 7 6 0 0), Ao6, (.agg [(.int .i64 (.ofNat 3)), (.str []), (.int .i64 (.ofNat 0)), (.nilsl)])], [(5, Ao9), (6, Ao7)], 866, (.bool false), [(5, Ao10), (6, Ao7)], 998⟩
theorem Ak32 (m : Int) : chk4 (callG m [] [] [] []) Ae32 = true := by kernel_rfl
theorem Ap32 {m : Int} : Cu m Ae32 := piece4 (t := []) (fns := []) (u := []) (gns := []) (ok_all m) .nil .nil (Ak32 m)
def Ao11 : FV := (.agg [(.sl 4 [[(.int .i64 (.ofNat 5)), (.str []), (.int .i64 (.ofNat 0)), (.sl 4 [[(.int .i64 (.ofNat 1)), (.str []), (.int .i64 (.ofNat 0)), (.nilsl)], [(.int .i64 (.ofNat 4)), (.str []), (.int .i64 (.ofNat 0)), (.nilsl)]])], [(.int .i64 (.ofNat 5)), (.str []), (.int .i64 (.ofNat 0)), (.sl 4 [[(.int .i64 (.ofNat 2)), (.str []), (.int .i64 (.ofNat 0)), (.nilsl)], [(.int .i64 (.ofNat 4)), (.str []), (.int .i64 (.ofNat 0)), (.nilsl)]])], [(.int .i64 (.ofNat 3)), (.str []), (.int .i64 (.ofNat 0)), (.nilsl)]]), (.sl 1 [[(.sl 1 [[(.int .i64 (.ofNat 1))]])], [(.sl 1 [[(.int .i64 (.ofNat 2))]])], [(.sl 1 [[(.int .i64 (.ofNat 0))]])]]), (.bool true)])
def Aa33 : List FV := [Ao1, Ao11, Ao6]
def Ar33 : FV := (.slx 1 [])
theorem Ak33 (m : Int) : isV (runP m [⟨78, Aa4, Ar4⟩, ⟨77, Aa11, Ar11⟩, ⟨129, Aa27, Ar27⟩] [77, 78, 129] [Ae30, Ae31, Ae32] [49] 11 Aa33) Ar33 = true := by kernel_rfl
theorem Ap33 {m : Int} : Pu m 11 Aa33 Ar33 := piece (t := [⟨78, Aa4, Ar4⟩, ⟨77, Aa11, Ar11⟩, ⟨129, Aa27, Ar27⟩]) (fns := [77, 78, 129]) (u := [Ae30, Ae31, Ae32]) (gns := [49]) (ok_all m) (.cons Ap4 (.cons Ap11 (.cons Ap27 .nil))) (.cons Ap30 (.cons Ap31 (.cons Ap32 .nil))) (Ak33 m) (by kernel_rfl) (by kernel_rfl)
def Ao12 : FV := (.agg [(.int .i64 (.ofNat 5)), (.str []), (.int .i64 (.ofNat 0)), (.sl 4 [[(.int .i64 (.negSucc 0)), (.str [120]), (.int .i64 (.ofNat 1)), (.nilsl)], [(.int .i64 (.ofNat 3)), (.str []), (.int .i64 (.ofNat 0)), (.nilsl)]])])
def Ae34 : Ent4 := ⟨49, [(.rp 7 6 0 0), Ao12, Ao2], [(5, (.map [])), (6, Ao7)], 198, (.bool false), [(5, Ao8), (6, Ao7)], 439⟩
theorem Ak34 (m : Int) : chk4 (callG m [] [] [] []) Ae34 = true := by kernel_rfl
theorem Ap34 {m : Int} : Cu m Ae34 := piece4 (t := []) (fns := []) (u := []) (gns := []) (ok_all m) .nil .nil (Ak34 m)
def Ae35 : Ent4 := ⟨49, [(.rp 7 6 0 0), Ao12, Ao3], [(5, Ao8), (6, Ao7)], 467, (.bool false), [(5, Ao9), (6, Ao7)], 704⟩
theorem Ak35 (m : Int) : chk4 (callG m [] [] [] []) Ae35 = true := by kernel_rfl
theorem Ap35 {m : Int} : Cu m Ae35 := piece4 (t := []) (fns := []) (u := []) (gns := []) (ok_all m) .nil .nil (Ak35 m)
def Ae36 : Ent4 := ⟨49, [(.rp 7 6 0 0), Ao12, (.agg [(.int .i64 (.ofNat 3)), (.str []), (.int .i64 (.ofNat 0)), (.nilsl)])], [(5, Ao9), (6, Ao7)], 710, (.bool true), [(5, Ao10), (6, Ao7)], 844⟩
theorem Ak36 (m : Int) : chk4 (callG m [] [] [] []) Ae36 = true := by kernel_rfl
theorem Ap36 {m : Int} : Cu m Ae36 := piece4 (t := []) (fns := []) (u := []) (gns := []) (ok_all m) .nil .nil (Ak36 m)
def Aa37 : List FV := [Ao1, Ao11, Ao12]
def Ar37 : FV := (.sl 1 [[(.int .i64 (.ofNat 2))]])
theorem Ak37 (m : Int) : isV (runP m [⟨78, Aa4, Ar4⟩, ⟨77, Aa11, Ar11⟩, ⟨129, Aa27, Ar27⟩] [77, 78, 129] [Ae34, Ae35, Ae36] [49] 11 Aa37) Ar37 = true := by kernel_rfl
theorem Ap37 {m : Int} : Pu m 11 Aa37 Ar37 := piece (t := [⟨78, Aa4, Ar4⟩, ⟨77, Aa11, Ar11⟩, ⟨129, Aa27, Ar27⟩]) (fns := [77, 78, 129]) (u := [Ae34, Ae35, Ae36]) (gns := [49]) (ok_all m) (.cons Ap4 (.cons Ap11 (.cons Ap27 .nil))) (.cons Ap34 (.cons Ap35 (.cons Ap36 .nil))) (Ak37 m) (by kernel_rfl) (by kernel_rfl)
def Ao13 : FV := (.slx 4 [[(.int .i64 (.ofNat 5)), (.str []), (.int .i64 (.ofNat 0)), (.sl 4 [[(.int .i64 (.negSucc 0)), (.str [120]), (.int .i64 (.ofNat 1)), (.nilsl)], [(.int .i64 (.ofNat 3)), (.str []), (.int .i64 (.ofNat 0)), (.nilsl)]])]])
def Aa38 : List FV := [Ao1, Ao11, Ao13]
def Ar38 : FV := (.tup [(.sl 1 [[(.int .i64 (.ofNat 0))], [(.int .i64 (.ofNat 0))], [(.int .i64 (.ofNat 1))]]), (.bool true)])
theorem Ak38 (m : Int) : isV (runP m [⟨78, Aa4, Ar4⟩, ⟨77, Aa11, Ar11⟩, ⟨129, Aa27, Ar27⟩, ⟨11, Aa37, Ar37⟩] [11, 77, 78, 129] [] [] 12 Aa38) Ar38 = true := by kernel_rfl
theorem Ap38 {m : Int} : Pu m 12 Aa38 Ar38 := piece (t := [⟨78, Aa4, Ar4⟩, ⟨77, Aa11, Ar11⟩, ⟨129, Aa27, Ar27⟩, ⟨11, Aa37, Ar37⟩]) (fns := [11, 77, 78, 129]) (u := []) (gns := []) (ok_all m) (.cons Ap4 (.cons Ap11 (.cons Ap27 (.cons Ap37 .nil)))) .nil (Ak38 m) (by kernel_rfl) (by kernel_rfl)
def Ao14 : FV := (.agg [(.int .i64 (.ofNat 7)), (.int .i64 (.ofNat 0)), (.slx 3 [[(.int .i64 (.ofNat 1)), (.int .i64 (.ofNat 0)), (.nilsl)], [(.int .i64 (.ofNat 2)), (.int .i64 (.ofNat 0)), (.nilsl)]])])
def Aa39 : List FV := [Ao11, (.sl 1 [[(.int .i64 (.ofNat 0))], [(.int .i64 (.ofNat 0))], [(.int .i64 (.ofNat 1))]]), Ao14]
def Ar39 : FV := (.tup [(.bool true), (.bool true)])
theorem Ak39 (m : Int) : isV (runP m [] [] [] [] 13 Aa39) Ar39 = true := by kernel_rfl
theorem Ap39 {m : Int} : Pu m 13 Aa39 Ar39 := piece (t := []) (fns := []) (u := []) (gns := []) (ok_all m) .nil .nil (Ak39 m) (by kernel_rfl) (by kernel_rfl)
def Aa40 : List FV := [Ao11, (.sl 1 [[(.int .i64 (.ofNat 0))], [(.int .i64 (.ofNat 0))], [(.int .i64 (.ofNat 1))]]), Ao14]
def Ar40 : FV := (.tup [(.bool true), (.bool true)])
theorem Ak40 (m : Int) : isV (runP m [] [] [] [] 14 Aa40) Ar40 = true := by kernel_rfl
theorem Ap40 {m : Int} : Pu m 14 Aa40 Ar40 := piece (t := []) (fns := []) (u := []) (gns := []) (ok_all m) .nil .nil (Ak40 m) (by kernel_rfl) (by kernel_rfl)
def Aa41 : List FV := [Ao0, (.int .i64 (.ofNat 5)), (.sl 4 [[(.int .i64 (.ofNat 4)), (.str []), (.int .i64 (.ofNat 0)), (.nilsl)], [(.int .i64 (.ofNat 1)), (.str []), (.int .i64 (.ofNat 0)), (.nilsl)], [(.int .i64 (.ofNat 1)), (.str []), (.int .i64 (.ofNat 0)), (.nilsl)]])]
def Ar41 : FV := (.tup [(.agg [(.int .i64 (.ofNat 5)), (.str []), (.int .i64 (.ofNat 0)), (.sl 4 [[(.int .i64 (.ofNat 1)), (.str []), (.int .i64 (.ofNat 0)), (.nilsl)], [(.int .i64 (.ofNat 1)), (.str []), (.int .i64 (.ofNat 0)), (.nilsl)], [(.int .i64 (.ofNat 4)), (.str []), (.int .i64 (.ofNat 0)), (.nilsl)]])]), (.bool true)])
theorem Ak41 (m : Int) : isV (runP m [⟨78, Aa4, Ar4⟩, ⟨77, Aa11, Ar11⟩] [77, 78] [] [] 9 Aa41) Ar41 = true := by kernel_rfl
theorem Ap41 {m : Int} : Pu m 9 Aa41 Ar41 := piece (t := [⟨78, Aa4, Ar4⟩, ⟨77, Aa11, Ar11⟩]) (fns := [77, 78]) (u := []) (gns := []) (ok_all m) (.cons Ap4 (.cons Ap11 .nil)) .nil (Ak41 m) (by kernel_rfl) (by kernel_rfl)
def Ao15 : FV := (.agg [(.int .i64 (.ofNat 5)), (.str []), (.int .i64 (.ofNat 0)), (.sl 4 [[(.int .i64 (.ofNat 1)), (.str []), (.int .i64 (.ofNat 0)), (.nilsl)], [(.int .i64 (.ofNat 1)), (.str []), (.int .i64 (.ofNat 0)), (.nilsl)], [(.int .i64 (.ofNat 4)), (.str []), (.int .i64 (.ofNat 0)), (.nilsl)]])])
def Aa42 : List FV := [Ao1, Ao15, (.int .i64 (.ofNat 500))]
def Ar42 : FV := (.tup [(.agg [(.int .i64 (.ofNat 5)), (.str []), (.int .i64 (.ofNat 0)), (.sl 4 [[(.int .i64 (.ofNat 1)), (.str []), (.int .i64 (.ofNat 0)), (.nilsl)], [(.int .i64 (.ofNat 1)), (.str []), (.int .i64 (.ofNat 0)), (.nilsl)], [(.int .i64 (.ofNat 4)), (.str []), (.int .i64 (.ofNat 0)), (.nilsl)]]), (.int .i64 (.ofNat 0)), (.int .i64 (.ofNat 0))]), (.bool true)])
theorem Ak42 (m : Int) : isV (runP m [⟨78, Aa4, Ar4⟩, ⟨77, Aa11, Ar11⟩] [77, 78] [] [] 19 Aa42) Ar42 = true := by kernel_rfl
theorem Ap42 {m : Int} : Pu m 19 Aa42 Ar42 := piece (t := [⟨78, Aa4, Ar4⟩, ⟨77, Aa11, Ar11⟩]) (fns := [77, 78]) (u := []) (gns := []) (ok_all m) (.cons Ap4 (.cons Ap11 .nil)) .nil (Ak42 m) (by kernel_rfl) (by kernel_rfl)
def Aa43 : List FV := [Ao1, Ao15]
def Ar43 : FV := (.tup [(.sl 9 [[(.int .i64 (.ofNat 0)), (.sl 1 [[(.int .i64 (.ofNat 0))]]), (.nilsl), (.nilsl), (.slx 8 []), (.int .i64 (.ofNat 5)), (.str []), (.int .i64 (.ofNat 0)), (.sl 4 [[(.int .i64 (.ofNat 1)), (.str []), (.int .i64 (.ofNat 0)), (.nilsl)], [(.int .i64 (.ofNat 2)), (.str []), (.int .i64 (.ofNat 0)), (.nilsl)], [(.int .i64 (.ofNat 4)), (.str []), (.int .i64 (.ofNat 0)), (.nilsl)]])], [(.int .i64 (.ofNat 0)), (.sl 1 [[(.int .i64 (.ofNat 1))]]), (.nilsl), (.nilsl), (.slx 8 []), (.int .i64 (.ofNat 5)), (.str []), (.int .i64 (.ofNat 0)), (.sl 4 [[(.int .i64 (.ofNat 1)), (.str []), (.int .i64 (.ofNat 0)), (.nilsl)], [(.int .i64 (.ofNat 2)), (.str []), (.int .i64 (.ofNat 0)), (.nilsl)], [(.int .i64 (.ofNat 4)), (.str []), (.int .i64 (.ofNat 0)), (.nilsl)]])]]), (.bool true)])
theorem Ak43 (m : Int) : isV (runP m [⟨78, Aa4, Ar4⟩, ⟨77, Aa11, Ar11⟩] [77, 78] [] [] 66 Aa43) Ar43 = true := by kernel_rfl
theorem Ap43 {m : Int} : Pu m 66 Aa43 Ar43 := piece (t := [⟨78, Aa4, Ar4⟩, ⟨77, Aa11, Ar11⟩]) (fns := [77, 78]) (u := []) (gns := []) (ok_all m) (.cons Ap4 (.cons Ap11 .nil)) .nil (Ak43 m) (by kernel_rfl) (by kernel_rfl)
def Ao16 : FV := (.agg [(.int .i64 (.ofNat 5)), (.str []), (.int .i64 (.ofNat 0)), (.sl 4 [[(.int .i64 (.ofNat 1)), (.str []), (.int .i64 (.ofNat 0)), (.nilsl)], [(.int .i64 (.ofNat 2)), (.str []), (.int .i64 (.ofNat 0)), (.nilsl)], [(.int .i64 (.ofNat 4)), (.str []), (.int .i64 (.ofNat 0)), (.nilsl)]])])
def Aa44 : List FV := [Ao1, Ao16, (.int .i64 (.ofNat 500))]
def Ar44 : FV := (.tup [(.agg [(.int .i64 (.ofNat 5)), (.str []), (.int .i64 (.ofNat 0)), (.sl 4 [[(.int .i64 (.ofNat 1)), (.str []), (.int .i64 (.ofNat 0)), (.nilsl)], [(.int .i64 (.ofNat 2)), (.str []), (.int .i64 (.ofNat 0)), (.nilsl)], [(.int .i64 (.ofNat 4)), (.str []), (.int .i64 (.ofNat 0)), (.nilsl)]]), (.int .i64 (.ofNat 0)), (.int .i64 (.ofNat 0))]), (.bool true)])
theorem Ak44 (m : Int) : isV (runP m [⟨78, Aa4, Ar4⟩, ⟨77, Aa11, Ar11⟩] [77, 78] [] [] 19 Aa44) Ar44 = true := by kernel_rfl
theorem Ap44 {m : Int} : Pu m 19 Aa44 Ar44 := piece (t := [⟨78, Aa4, Ar4⟩, ⟨77, Aa11, Ar11⟩]) (fns := [77, 78]) (u := []) (gns := []) (ok_all m) (.cons Ap4 (.cons Ap11 .nil)) .nil (Ak44 m) (by kernel_rfl) (by kernel_rfl)
def Ao17 : FV := (.tup [(.sl 4 [[(.int .i64 (.ofNat 5)), (.str []), (.int .i64 (.ofNat 0)), (.sl 4 [[(.int .i64 (.ofNat 1)), (.str []), (.int .i64 (.ofNat 0)), (.nilsl)], [(.int .i64 (.ofNat 2)), (.str []), (.int .i64 (.ofNat 0)), (.nilsl)], [(.int .i64 (.ofNat 4)), (.str []), (.int .i64 (.ofNat 0)), (.nilsl)]])]]), (.bool true)])
def Aa45 : List FV := [Ao1, (.sl 9 [[(.int .i64 (.ofNat 0)), (.sl 1 [[(.int .i64 (.ofNat 0))]]), (.nilsl), (.nilsl), (.slx 8 []), (.int .i64 (.ofNat 5)), (.str []), (.int .i64 (.ofNat 0)), (.sl 4 [[(.int .i64 (.ofNat 1)), (.str []), (.int .i64 (.ofNat 0)), (.nilsl)], [(.int .i64 (.ofNat 2)), (.str []), (.int .i64 (.ofNat 0)), (.nilsl)], [(.int .i64 (.ofNat 4)), (.str []), (.int .i64 (.ofNat 0)), (.nilsl)]])], [(.int .i64 (.ofNat 0)), (.sl 1 [[(.int .i64 (.ofNat 1))]]), (.nilsl), (.nilsl), (.slx 8 []), (.int .i64 (.ofNat 5)), (.str []), (.int .i64 (.ofNat 0)), (.sl 4 [[(.int .i64 (.ofNat 1)), (.str []), (.int .i64 (.ofNat 0)), (.nilsl)], [(.int .i64 (.ofNat 2)), (.str []), (.int .i64 (.ofNat 0)), (.nilsl)], [(.int .i64 (.ofNat 4)), (.str []), (.int .i64 (.ofNat 0)), (.nilsl)]])]])]
def Ar45 : FV := Ao17
theorem Ak45 (m : Int) : isV (runP m [⟨19, Aa44, Ar44⟩] [19] [] [] 67 Aa45) Ar45 = true := by kernel_rfl
theorem Ap45 {m : Int} : Pu m 67 Aa45 Ar45 := piece (t := [⟨19, Aa44, Ar44⟩]) (fns := [19]) (u := []) (gns := []) (ok_all m) (.cons Ap44 .nil) .nil (Ak45 m) (by kernel_rfl) (by kernel_rfl)
def Aa46 : List FV := [Ao1, Ao15]
def Ar46 : FV := Ao17
theorem Ak46 (m : Int) : isV (runP m [⟨66, Aa43, Ar43⟩, ⟨67, Aa45, Ar45⟩] [66, 67] [] [] 27 Aa46) Ar46 = true := by kernel_rfl
theorem Ap46 {m : Int} : Pu m 27 Aa46 Ar46 := piece (t := [⟨66, Aa43, Ar43⟩, ⟨67, Aa45, Ar45⟩]) (fns := [66, 67]) (u := []) (gns := []) (ok_all m) (.cons Ap43 (.cons Ap45 .nil)) .nil (Ak46 m) (by kernel_rfl) (by kernel_rfl)
def Aa47 : List FV := [Ao1, Ao16]
def Ar47 : FV := (.tup [(.sl 9 [[(.int .i64 (.ofNat 0)), (.sl 1 [[(.int .i64 (.ofNat 0))]]), (.nilsl), (.nilsl), (.slx 8 []), (.int .i64 (.ofNat 5)), (.str []), (.int .i64 (.ofNat 0)), (.sl 4 [[(.int .i64 (.ofNat 2)), (.str []), (.int .i64 (.ofNat 0)), (.nilsl)], [(.int .i64 (.ofNat 2)), (.str []), (.int .i64 (.ofNat 0)), (.nilsl)], [(.int .i64 (.ofNat 4)), (.str []), (.int .i64 (.ofNat 0)), (.nilsl)]])], [(.int .i64 (.ofNat 1)), (.nilsl), (.sl 4 [[(.int .i64 (.ofNat 1)), (.str []), (.int .i64 (.ofNat 0)), (.nilsl)]]), (.nilsl), (.slx 8 []), (.int .i64 (.ofNat 5)), (.str []), (.int .i64 (.ofNat 0)), (.sl 4 [[(.int .i64 (.ofNat 1)), (.str []), (.int .i64 (.ofNat 0)), (.nilsl)], [(.int .i64 (.ofNat 3)), (.str []), (.int .i64 (.ofNat 0)), (.nilsl)]])]]), (.bool true)])
theorem Ak47 (m : Int) : isV (runP m [⟨78, Aa4, Ar4⟩, ⟨77, Aa11, Ar11⟩] [77, 78] [] [] 66 Aa47) Ar47 = true := by kernel_rfl
theorem Ap47 {m : Int} : Pu m 66 Aa47 Ar47 := piece (t := [⟨78, Aa4, Ar4⟩, ⟨77, Aa11, Ar11⟩]) (fns := [77, 78]) (u := []) (gns := []) (ok_all m) (.cons Ap4 (.cons Ap11 .nil)) .nil (Ak47 m) (by kernel_rfl) (by kernel_rfl)
def Ao18 : FV := (.agg [(.int .i64 (.ofNat 5)), (.str []), (.int .i64 (.ofNat 0)), (.sl 4 [[(.int .i64 (.ofNat 2)), (.str []), (.int .i64 (.ofNat 0)), (.nilsl)], [(.int .i64 (.ofNat 2)), (.str []), (.int .i64 (.ofNat 0)), (.nilsl)], [(.int .i64 (.ofNat 4)), (.str []), (.int .i64 (.ofNat 0)), (.nilsl)]])])
def Aa48 : List FV := [Ao1, Ao18, (.int .i64 (.ofNat 500))]
def Ar48 : FV := (.tup [(.agg [(.int .i64 (.ofNat 5)), (.str []), (.int .i64 (.ofNat 0)), (.sl 4 [[(.int .i64 (.ofNat 2)), (.str []), (.int .i64 (.ofNat 0)), (.nilsl)], [(.int .i64 (.ofNat 2)), (.str []), (.int .i64 (.ofNat 0)), (.nilsl)], [(.int .i64 (.ofNat 4)), (.str []), (.int .i64 (.ofNat 0)), (.nilsl)]]), (.int .i64 (.ofNat 0)), (.int .i64 (.ofNat 0))]), (.bool true)])
theorem Ak48 (m : Int) : isV (runP m [⟨78, Aa4, Ar4⟩, ⟨77, Aa11, Ar11⟩] [77, 78] [] [] 19 Aa48) Ar48 = true := by kernel_rfl
theorem Ap48 {m : Int} : Pu m 19 Aa48 Ar48 := piece (t := [⟨78, Aa4, Ar4⟩, ⟨77, Aa11, Ar11⟩]) (fns := [77, 78]) (u := []) (gns := []) (ok_all m) (.cons Ap4 (.cons Ap11 .nil)) .nil (Ak48 m) (by kernel_rfl) (by kernel_rfl)
def Ao19 : FV := (.agg [(.int .i64 (.ofNat 5)), (.str []), (.int .i64 (.ofNat 0)), (.sl 4 [[(.int .i64 (.ofNat 1)), (.str []), (.int .i64 (.ofNat 0)), (.nilsl)], [(.int .i64 (.ofNat 3)), (.str []), (.int .i64 (.ofNat 0)), (.nilsl)]])])
def Aa49 : List FV := [Ao1, Ao19, (.int .i64 (.ofNat 500))]
def Ar49 : FV := (.tup [(.agg [(.int .i64 (.ofNat 5)), (.str []), (.int .i64 (.ofNat 0)), (.sl 4 [[(.int .i64 (.ofNat 1)), (.str []), (.int .i64 (.ofNat 0)), (.nilsl)], [(.int .i64 (.ofNat 3)), (.str []), (.int .i64 (.ofNat 0)), (.nilsl)]]), (.int .i64 (.ofNat 0)), (.int .i64 (.ofNat 0))]), (.bool true)])
theorem Ak49 (m : Int) : isV (runP m [⟨78, Aa4, Ar4⟩, ⟨77, Aa11, Ar11⟩] [77, 78] [] [] 19 Aa49) Ar49 = true := by kernel_rfl
theorem Ap49 {m : Int} : Pu m 19 Aa49 Ar49 := piece (t := [⟨78, Aa4, Ar4⟩, ⟨77, Aa11, Ar11⟩]) (fns := [77, 78]) (u := []) (gns := []) (ok_all m) (.cons Ap4 (.cons Ap11 .nil)) .nil (Ak49 m) (by kernel_rfl) (by kernel_rfl)
def Ao20 : FV := (.tup [(.sl 4 [[(.int .i64 (.ofNat 5)), (.str []), (.int .i64 (.ofNat 0)), (.sl 4 [[(.int .i64 (.ofNat 1)), (.str []), (.int .i64 (.ofNat 0)), (.nilsl)], [(.int .i64 (.ofNat 3)), (.str []), (.int .i64 (.ofNat 0)), (.nilsl)]])], [(.int .i64 (.ofNat 5)), (.str []), (.int .i64 (.ofNat 0)), (.sl 4 [[(.int .i64 (.ofNat 2)), (.str []), (.int .i64 (.ofNat 0)), (.nilsl)], [(.int .i64 (.ofNat 2)), (.str []), (.int .i64 (.ofNat 0)), (.nilsl)], [(.int .i64 (.ofNat 4)), (.str []), (.int .i64 (.ofNat 0)), (.nilsl)]])]]), (.bool true)])
def Aa50 : List FV := [Ao1, (.sl 9 [[(.int .i64 (.ofNat 0)), (.sl 1 [[(.int .i64 (.ofNat 0))]]), (.nilsl), (.nilsl), (.slx 8 []), (.int .i64 (.ofNat 5)), (.str []), (.int .i64 (.ofNat 0)), (.sl 4 [[(.int .i64 (.ofNat 2)), (.str []), (.int .i64 (.ofNat 0)), (.nilsl)], [(.int .i64 (.ofNat 2)), (.str []), (.int .i64 (.ofNat 0)), (.nilsl)], [(.int .i64 (.ofNat 4)), (.str []), (.int .i64 (.ofNat 0)), (.nilsl)]])], [(.int .i64 (.ofNat 1)), (.nilsl), (.sl 4 [[(.int .i64 (.ofNat 1)), (.str []), (.int .i64 (.ofNat 0)), (.nilsl)]]), (.nilsl), (.slx 8 []), (.int .i64 (.ofNat 5)), (.str []), (.int .i64 (.ofNat 0)), (.sl 4 [[(.int .i64 (.ofNat 1)), (.str []), (.int .i64 (.ofNat 0)), (.nilsl)], [(.int .i64 (.ofNat 3)), (.str []), (.int .i64 (.ofNat 0)), (.nilsl)]])]])]
def Ar50 : FV := Ao20
theorem Ak50 (m : Int) : isV (runP m [⟨19, Aa48, Ar48⟩, ⟨19, Aa49, Ar49⟩] [19] [] [] 67 Aa50) Ar50 = true := by kernel_rfl
theorem Ap50 {m : Int} : Pu m 67 Aa50 Ar50 := piece (t := [⟨19, Aa48, Ar48⟩, ⟨19, Aa49, Ar49⟩]) (fns := [19]) (u := []) (gns := []) (ok_all m) (.cons Ap48 (.cons Ap49 .nil)) .nil (Ak50 m) (by kernel_rfl) (by kernel_rfl)
def Aa51 : List FV := [Ao1, Ao16]
def Ar51 : FV := Ao20
theorem Ak51 (m : Int) : isV (runP m [⟨66, Aa47, Ar47⟩, ⟨67, Aa50, Ar50⟩] [66, 67] [] [] 27 Aa51) Ar51 = true := by kernel_rfl
theorem Ap51 {m : Int} : Pu m 27 Aa51 Ar51 := piece (t := [⟨66, Aa47, Ar47⟩, ⟨67, Aa50, Ar50⟩]) (fns := [66, 67]) (u := []) (gns := []) (ok_all m) (.cons Ap47 (.cons Ap50 .nil)) .nil (Ak51 m) (by kernel_rfl) (by kernel_rfl)
end
end Go.Fs
