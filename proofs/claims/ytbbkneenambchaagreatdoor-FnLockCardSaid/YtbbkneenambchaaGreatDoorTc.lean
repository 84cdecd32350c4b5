/- The law of the lock: steps of its run. The law of the lock: its run answers true. Conditions: none. -/
import Derived.Test.YtbbkneenambchaaGreatDoorP0
import Derived.Test.YtbbkneenambchaaGreatDoorTb
import Derived.Test.YtbbkneenambchaaGreatDoorP8

namespace Go.Fs
open Go Go.Proofs
set_option maxRecDepth 100000
noncomputable section
/-- Some items further, by the other arm at a condition. -/
def skipTo : Nat → List Item → List Item
  | 0, k => k
  | n + 1, .code (.seq x y) :: k => skipTo n (.code x :: .code y :: k)
  | n + 1, .code (.region _ _ _) :: k => skipTo n k
  | n + 1, .code .skip :: k => skipTo n k
  | n + 1, .code (.cond _ _ y) :: k => skipTo n (.code y :: k)
  | _, k => k
def bodyI (f : Nat) : List Item := @Option.rec Func (fun _ => List Item) [] (fun fn => @Option.rec Code (fun _ => List Item) [] (fun b => [.code b]) fn.body) (Tryz.prog.funcs[f]?)
def resI (f : Nat) : List ResultVar := @Option.rec Func (fun _ => List ResultVar) [] (fun fn => fn.results.toList) (Tryz.prog.funcs[f]?)
def outB (o : Out) : Bool := @Out.rec (fun _ => Bool) false (fun x _ _ => @Option.rec Bool (fun _ => Bool) false (fun b => b) (asBool x)) o
def k1 : List Item := skipTo 5 (bodyI 3)
def k2 : List Item := skipTo 6 k1
def E1 (x q : FV) : ET := putS 25 q (putS 24 x (putS 2 (.bool false) (argE [x] 0 E0T)))
def mM : FV := @Option.rec FV (fun _ => FV) .und (fun x => x) (ext1 Ar12 0)
def E2 (x a x32 x5 : FV) : ET := putS 5 x5 (putS 33 x5 (putS 32 x32 (putS 31 a (putS 30 x (putS 4 (.bool true) (putS 3 (.rp 5 0 0 0) (putS 29 (.bool true) (putS 28 mM (putS 26 Ar12 (putS 27 Ar12 (E1 x (.bool false))))))))))))
def H2 : HT := putH 0 (.row 5 0 [cellsV mM]) (putH 0 (.row 5 0 [[.nilsl, .nilsl, .nilsl, .nilsl, .nilsl]]) H0T)
end
theorem outB_ok {o : Out} (h : outB o = true) : ∃ H c, o = .ok (.bool true) H c := by
  cases o with
  | no => exact nomatch (show false = true from h)
  | ok x H c =>
    have h : @Option.rec Bool (fun _ => Bool) false (fun b => b) (asBool x) = true := h
    cases hx : asBool x with
    | none => rw [hx] at h; cases h
    | some b =>
      rw [hx] at h
      have h : b = true := h
      rw [asBool_inv hx, h]
      exact ⟨H, c, rfl⟩

def fns3 : List Nat := [7, 9, 10, 11, 12, 13, 14]
section
variable (m : Int) (t : List Ent3)
theorem s0 (x : FV) : callT m t fns3 [] [] 3 [x] H0T 0 = outV (cfg5 m t fns3 [] []) (resI 3) (runQ (cfg5 m t fns3 [] []) (99995 + 5) 3 (bodyI 3) (argE [x] 0 E0T) H0T 0) := by kernel_rfl
theorem s1 (n : Nat) (es : List (List FV)) : runQ (cfg5 m t fns3 [] []) (n + 5) 3 (bodyI 3) (argE [.sl 1 es] 0 E0T) H0T 0 = runQ (cfg5 m t fns3 [] []) n 3 k1 (E1 (.sl 1 es) (.bool (ilt 1048576 (.ofNat (len es))))) H0T 0 := by kernel_rfl
theorem s1v (n : Nat) (a : Option Addr) (l c : Nat) : runQ (cfg5 m t fns3 [] []) (n + 5) 3 (bodyI 3) (argE [.val (.slice a l c)] 0 E0T) H0T 0 = runQ (cfg5 m t fns3 [] []) n 3 k1 (E1 (.val (.slice a l c)) (.bool (ilt 1048576 (.ofNat l)))) H0T 0 := by kernel_rfl
theorem s1b (x : FV) : outB (outV (cfg5 m t fns3 [] []) (resI 3) (runQ (cfg5 m t fns3 [] []) 99995 3 k1 (E1 x (.bool true)) H0T 0)) = true := by kernel_rfl
end
theorem s2 (m : Int) (t : List Ent3) (b : Int) (r : List (List FV)) (n : Nat) : runQ (cfg5 m (⟨7, Aa12, Ar12⟩ :: t) fns3 [] []) (n + 16) 3 k1 (E1 (.sl 1 ([.int .u8 b] :: r)) (.bool false)) H0T 0 = runQ (cfg5 m (⟨7, Aa12, Ar12⟩ :: t) fns3 [] []) (n + 10) 3 k2 (E2 (.sl 1 ([.int .u8 b] :: r)) (.int .i64 (IntKind.wrap .i64 b)) (.int .i64 (Int.tmod (IntKind.wrap .i64 b) 3)) (arI .i64 (iadd 1 (Int.tmod (IntKind.wrap .i64 b) 3)))) H2 1 := by kernel_rfl
end Go.Fs

namespace Go.Fs
open Go Go.Proofs
set_option maxRecDepth 100000
noncomputable section
def tL0 : List Ent3 := ⟨7, Aa12, Ar12⟩ :: [⟨9, Aa13, Ar13⟩, ⟨10, Aa26, Ar26⟩, ⟨9, Aa28, Ar28⟩, ⟨9, Aa29, Ar29⟩, ⟨11, Aa33, Ar33⟩, ⟨12, Aa38, Ar38⟩, ⟨13, Aa39, Ar39⟩, ⟨14, Aa40, Ar40⟩]
theorem tL0_ok (m : Int) : Tab m tL0 := (.cons Ap12 (.cons Ap13 (.cons Ap26 (.cons Ap28 (.cons Ap29 (.cons Ap33 (.cons Ap38 (.cons Ap39 (.cons Ap40 .nil)))))))))
def tL1 : List Ent3 := ⟨7, Aa12, Ar12⟩ :: [⟨9, Aa41, Ar41⟩, ⟨10, Aa62, Ar62⟩, ⟨9, Aa28, Ar28⟩, ⟨9, Aa29, Ar29⟩, ⟨11, Aa68, Ar68⟩, ⟨12, Aa75, Ar75⟩, ⟨13, Aa76, Ar76⟩, ⟨14, Aa77, Ar77⟩]
theorem tL1_ok (m : Int) : Tab m tL1 := (.cons Ap12 (.cons Ap41 (.cons Ap62 (.cons Ap28 (.cons Ap29 (.cons Ap68 (.cons Ap75 (.cons Ap76 (.cons Ap77 .nil)))))))))
def tL2 : List Ent3 := ⟨7, Aa12, Ar12⟩ :: [⟨9, Aa78, Ar78⟩, ⟨10, Aa107, Ar107⟩, ⟨9, Aa28, Ar28⟩, ⟨9, Aa29, Ar29⟩, ⟨11, Aa115, Ar115⟩, ⟨12, Aa124, Ar124⟩, ⟨13, Aa125, Ar125⟩, ⟨14, Aa126, Ar126⟩]
theorem tL2_ok (m : Int) : Tab m tL2 := (.cons Ap12 (.cons Ap78 (.cons Ap107 (.cons Ap28 (.cons Ap29 (.cons Ap115 (.cons Ap124 (.cons Ap125 (.cons Ap126 .nil)))))))))
end
theorem s3_0 (m : Int) (x a y : FV) : outB (outV (cfg5 m tL0 fns3 [] []) (resI 3) (runQ (cfg5 m tL0 fns3 [] []) 99989 3 k2 (E2 x a y (.int .i64 (.ofNat 1))) H2 1)) = true := by kernel_rfl
theorem s3_1 (m : Int) (x a y : FV) : outB (outV (cfg5 m tL1 fns3 [] []) (resI 3) (runQ (cfg5 m tL1 fns3 [] []) 99989 3 k2 (E2 x a y (.int .i64 (.ofNat 2))) H2 1)) = true := by kernel_rfl
theorem s3_2 (m : Int) (x a y : FV) : outB (outV (cfg5 m tL2 fns3 [] []) (resI 3) (runQ (cfg5 m tL2 fns3 [] []) 99989 3 k2 (E2 x a y (.int .i64 (.ofNat 3))) H2 1)) = true := by kernel_rfl
theorem s4 (m : Int) : outB (callT m tL0 fns3 [] [] 3 [.sl 1 []] H0T 0) = true := by kernel_rfl
noncomputable def xV (b : Int) : FV := arI .i64 (iadd 1 (Int.tmod (IntKind.wrap .i64 b) 3))
theorem xV_all : (List.range 256).all (fun b => sameV 5 (xV (.ofNat b)) (.int .i64 (.ofNat (1 + b % 3)))) = true := by kernel_rfl
theorem xV_eq {b : Nat} (h : b < 256) : xV (.ofNat b) = .int .i64 (.ofNat (1 + b % 3)) := sameV_ok 5 _ _ (List.all_eq_true.1 xV_all b (List.mem_range.2 h))
/-- Whatever the bytes, the run answers true. -/
theorem lock_run (m : Int) (x : FV) (hx : (∃ a l c, x = .val (.slice a l c) ∧ 1048576 < l) ∨ (∃ es : List Nat, x = .sl 1 (es.map fun b => [.int .u8 (.ofNat b)]) ∧ ∀ b, b ∈ es → b < 256)) :
    ∃ t H c, Tab m t ∧ callT m t fns3 [] [] 3 [x] H0T 0 = .ok (.bool true) H c := by
  rcases hx with ⟨a, l, c, rfl, hl⟩ | ⟨es, rfl, hb⟩
  · have h := s1b m tL0 (.val (.slice a l c))
    have e : ilt 1048576 (.ofNat l) = true := by rw [ilt_eq]; exact decide_eq_true (by show (1048576 : Int) < (l : Int); omega)
    have h1 := s1v m tL0 99995 a l c
    rw [e] at h1
    rw [← h1, ← s0] at h
    obtain ⟨H, c', h⟩ := outB_ok h
    exact ⟨tL0, H, c', tL0_ok m, h⟩
  · by_cases hl : 1048576 < es.length
    · have h := s1b m tL0 (.sl 1 (es.map fun b => [.int .u8 (.ofNat b)]))
      have e : ilt 1048576 (.ofNat (len (es.map fun b => [FV.int .u8 (.ofNat b)]))) = true := by rw [ilt_eq, len_eq]; exact decide_eq_true (by show (1048576 : Int) < ((es.map fun b => [FV.int .u8 (.ofNat b)]).length : Int); simp; omega)
      have h1 := s1 m tL0 99995 (es.map fun b => [.int .u8 (.ofNat b)])
      rw [e] at h1
      rw [← h1, ← s0] at h
      obtain ⟨H, c', h⟩ := outB_ok h
      exact ⟨tL0, H, c', tL0_ok m, h⟩
    · cases es with
      | nil =>
        obtain ⟨H, c', h⟩ := outB_ok (s4 m)
        exact ⟨tL0, H, c', tL0_ok m, h⟩
      | cons b r =>
        have e : ilt 1048576 (.ofNat (len ((b :: r).map fun b => [FV.int .u8 (.ofNat b)]))) = false := by rw [ilt_eq, len_eq]; exact decide_eq_false (by show ¬ (1048576 : Int) < (((b :: r).map fun b => [FV.int .u8 (.ofNat b)]).length : Int); simp at hl ⊢; omega)
        have hb0 := hb b List.mem_cons_self
        have fin : ∀ t' : List Ent3, Tab m (⟨7, Aa12, Ar12⟩ :: t') → outB (outV (cfg5 m (⟨7, Aa12, Ar12⟩ :: t') fns3 [] []) (resI 3) (runQ (cfg5 m (⟨7, Aa12, Ar12⟩ :: t') fns3 [] []) 99989 3 k2 (E2 (.sl 1 ([.int .u8 (.ofNat b)] :: (r.map fun b => [.int .u8 (.ofNat b)]))) (.int .i64 (IntKind.wrap .i64 (.ofNat b))) (.int .i64 (Int.tmod (IntKind.wrap .i64 (.ofNat b)) 3)) (.int .i64 (.ofNat (1 + b % 3)))) H2 1)) = true →
            ∃ t H c, Tab m t ∧ callT m t fns3 [] [] 3 [.sl 1 ((b :: r).map fun b => [.int .u8 (.ofNat b)])] H0T 0 = .ok (.bool true) H c := fun t' ht h => by
          have h1 := s1 m (⟨7, Aa12, Ar12⟩ :: t') 99995 ((b :: r).map fun b => [.int .u8 (.ofNat b)])
          rw [e] at h1
          have h2 := s2 m t' (.ofNat b) (r.map fun b => [.int .u8 (.ofNat b)]) 99979
          have e2 : arI .i64 (iadd 1 (Int.tmod (IntKind.wrap .i64 (.ofNat b)) 3)) = .int .i64 (.ofNat (1 + b % 3)) := xV_eq hb0
          rw [e2] at h2
          have h3 : runQ (cfg5 m (⟨7, Aa12, Ar12⟩ :: t') fns3 [] []) (99995 + 5) 3 (bodyI 3) (argE [.sl 1 ((b :: r).map fun b => [.int .u8 (.ofNat b)])] 0 E0T) H0T 0 = _ := h1.trans h2
          have h4 := s0 m (⟨7, Aa12, Ar12⟩ :: t') (.sl 1 ((b :: r).map fun b => [.int .u8 (.ofNat b)]))
          rw [h3] at h4
          rw [← h4] at h
          obtain ⟨H, c', h⟩ := outB_ok h
          exact ⟨_, H, c', ht, h⟩
        have hm : b % 3 = 0 ∨ b % 3 = 1 ∨ b % 3 = 2 := by omega
        rcases hm with h | h | h
        · exact fin _ (tL0_ok m) (by rw [h]; exact s3_0 m _ _ _)
        · exact fin _ (tL1_ok m) (by rw [h]; exact s3_1 m _ _ _)
        · exact fin _ (tL2_ok m) (by rw [h]; exact s3_2 m _ _ _)
end Go.Fs
