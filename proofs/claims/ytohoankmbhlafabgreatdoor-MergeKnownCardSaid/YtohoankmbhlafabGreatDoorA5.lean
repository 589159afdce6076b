import Derived.Test.YtohoankmbhlafabGreatDoorP
import Derived.Test.YtohoankmbhlafabGreatDoorProg
import Derived.KernelRfl
/- The functions of the program as the interpreter has them; each is the program's, by the kernel. -/
set_option maxRecDepth 1000000
namespace Go.Proofs.YtohoankmbhlafabGreatDoor
open Go Go.Ai AVal
noncomputable section
def d333 : FD := ⟨333, 3, [6, 10, 12, 11, 8, 7]⟩
def a333 : CodeF := (kSeq (kReg (sS 3 (ki 0) sEnd))
 (kSeq (kSeq (kReg (sH (oRngS (xT 0)) (sS 4 (xL 0) sEnd)))
 (kBlock 0 (kLoop (kSeq (kReg sBad)
 (kSeq (kCond (xT 5) kSkip
 (kExit 0))
 (kBlock 1 (kSeq (kReg (sV (oExt 1 (xT 6)) (sV (oExt 2 (xT 6)) (sS 8 (xL 1) (sS 7 (xL 0) sEnd)))))
 (kRegC (fun k => (sC (cVal (xT 1)) [(xT 7)] (sV (oBin .eql .bool (xL 0) (xT 2)) k))) (xL 0) (kSeq (kReg (sS 3 (xT 8) sEnd))
 kRet)
 kSkip))))))))
 (kSeq (kReg (sS 3 (xK (int .i64 (.negSucc 0))) sEnd))
 kRet)))
theorem t333 : FF d333 Tryz.f333 a333 [(.t 3)] := ff Tryz.func333 (by kernel_rfl)
def x333 : XFn := .go a333 3 pd6 [(.t 3)]
def d334 : FD := ⟨334, 2, [4]⟩
def a334 : CodeF := (kSeq (kDraw [(.v (oMov (xT 0)), none), (.v (oNilc (xL 0)), none), (.v (oFaddr 1 (xL 0)), none), (.v (oLoad (xL 0)), none), (.v (oCap (xL 0)), none), (.v (oBin .mul .no (ki 2) (xL 0)), none), (.v (oMov (xT 1)), none), (.v (oBin .add .no (xL 1) (xL 0)), none), (.c (cFn 370) [(xL 0)], none), (.v (oMov (xT 0)), none), (.v (oNilc (xL 0)), none), (.v (oFaddr 1 (xL 0)), none), (.v (oLoad (xL 0)), none), (.v (oLenL (xL 0)), none), (.v (oSlc 1 (xL 5) none (some (xL 0)) none), none), (.v (oMov (xL 0)), none)] 0 [none, none, (some 0)] [(3, 7)])
 (kSeq (kReg (sV (oNilc (xT 0)) (sV (oFaddr 1 (xL 0)) (sV (oLoad (xL 0)) (sH (oCopy 1 (xT 2) (xL 0)) sEnd)))))
 (kReg (sV (oNilc (xT 0)) (sV (oFaddr 1 (xL 0)) (sH (oStore 1 (xL 0) (xT 2)) sEnd))))))
theorem t334 : FF d334 Tryz.f334 a334 [] := ff Tryz.func334 (by kernel_rfl)
def x334 : XFn := .go a334 2 pd1 []
def d335 : FD := ⟨335, 3, [6, 7, 85, 100, 101, 102, 99, 8, 15, 16, 10, 13, 11, 17, 9, 12]⟩
def a335 : CodeF := (kSeq (kReg (sS 3 (xK (int .u64 (.ofNat 0))) (sS 4 (xK nilif) sEnd)))
 (kSeq (kRegC (fun k => (sV (oBin .eql .no (xT 0) (xK (str []))) k)) (xL 0) (kSeq (kReg (sV (oMkif 464 (ki 2)) (sS 3 (xK (int .u64 (.ofNat 0))) (sS 4 (xL 0) sEnd))))
 kRet)
 kSkip)
 (kSeq (kReg (sV (oBin .eql .no (xT 1) (ki 0)) (sS 10 (xL 0) sEnd)))
 (kSeq (kReg (sS 17 (xT 0) sEnd))
 (kSeq (kBlock 0 (kRegC (fun k => (sV (oBin .leq .no (ki 2) (xT 1)) (sG (xL 0) true (sV (oMov (xT 1))) (sG (xL 1) true (sV (oBin .leq .no (xL 0) (ki 36))) (sV (oPick (xL 2) (xL 0) (xK (bool false))) k))))) (xL 0) kSkip
 (kRegC (fun k => (sV (oBin .eql .no (xT 1) (ki 0)) k)) (xL 0) (kSeq (kReg (sS 1 (ki 10) sEnd))
 (kRegC (fun k => (sV (oIdx (xT 0) (ki 0)) (sV (oBin .eql .no (xL 0) (xK (int .u8 (.ofNat 48)))) k))) (xL 0) (kBlock 1 (kRegC (fun k => (sV (oLenS (xT 0)) (sV (oBin .geq .no (xL 0) (ki 3)) (sG (xL 0) true (sV (oMov (xT 0))) (sG (xL 1) true (sV (oIdx (xL 0) (ki 1))) (sG (xL 2) true (sC (cFn 371) [(xL 0)]) (sG (xL 3) true (sV (oBin .eql .no (xL 0) (xK (int .u8 (.ofNat 98))))) (sV (oPick (xL 4) (xL 0) (xK (bool false))) k)))))))) (xL 0) (kSeq (kReg (sS 1 (ki 2) sEnd))
 (kReg (sV (oMov (xT 0)) (sV (oSlcs (xL 0) (some (ki 2)) none) (sS 0 (xL 0) sEnd)))))
 (kRegC (fun k => (sV (oLenS (xT 0)) (sV (oBin .geq .no (xL 0) (ki 3)) (sG (xL 0) true (sV (oMov (xT 0))) (sG (xL 1) true (sV (oIdx (xL 0) (ki 1))) (sG (xL 2) true (sC (cFn 371) [(xL 0)]) (sG (xL 3) true (sV (oBin .eql .no (xL 0) (xK (int .u8 (.ofNat 111))))) (sV (oPick (xL 4) (xL 0) (xK (bool false))) k)))))))) (xL 0) (kSeq (kReg (sS 1 (ki 8) sEnd))
 (kReg (sV (oMov (xT 0)) (sV (oSlcs (xL 0) (some (ki 2)) none) (sS 0 (xL 0) sEnd)))))
 (kRegC (fun k => (sV (oLenS (xT 0)) (sV (oBin .geq .no (xL 0) (ki 3)) (sG (xL 0) true (sV (oMov (xT 0))) (sG (xL 1) true (sV (oIdx (xL 0) (ki 1))) (sG (xL 2) true (sC (cFn 371) [(xL 0)]) (sG (xL 3) true (sV (oBin .eql .no (xL 0) (xK (int .u8 (.ofNat 120))))) (sV (oPick (xL 4) (xL 0) (xK (bool false))) k)))))))) (xL 0) (kSeq (kReg (sS 1 (ki 16) sEnd))
 (kReg (sV (oMov (xT 0)) (sV (oSlcs (xL 0) (some (ki 2)) none) (sS 0 (xL 0) sEnd)))))
 (kSeq (kReg (sS 1 (ki 8) sEnd))
 (kReg (sV (oMov (xT 0)) (sV (oSlcs (xL 0) (some (ki 1)) none) (sS 0 (xL 0) sEnd)))))))))
 kSkip))
 (kSeq (kReg (sV (oMkif 464 (ki 3)) (sS 3 (xK (int .u64 (.ofNat 0))) (sS 4 (xL 0) sEnd))))
 kRet))))
 (kSeq (kRegC (fun k => (sV (oBin .eql .no (xT 2) (ki 0)) k)) (xL 0) (kReg (sS 2 (ki 64) sEnd))
 (kRegC (fun k => (sV (oBin .lss .no (xT 2) (ki 0)) (sG (xL 0) false (sV (oMov (xT 2))) (sG (xL 1) false (sV (oBin .gtr .no (xL 0) (ki 64))) (sV (oPick (xL 2) (xK (bool true)) (xL 0)) k))))) (xL 0) (kSeq (kReg (sV (oMkif 464 (ki 4)) (sS 3 (xK (int .u64 (.ofNat 0))) (sS 4 (xL 0) sEnd))))
 kRet)
 kSkip))
 (kSeq (kReg (sS 13 (xK (int .u64 (.ofNat 0))) sEnd))
 (kSeq (kSeq (kReg (sS 5 (xT 1) sEnd))
 (kBlock 2 (kRegC (fun k => (sV (oBin .eql .no (xT 5) (ki 10)) k)) (xL 0) (kReg (sS 13 (xK (int .u64 (.ofNat 1844674407370955162))) sEnd))
 (kRegC (fun k => (sV (oBin .eql .no (xT 5) (ki 16)) k)) (xL 0) (kReg (sS 13 (xK (int .u64 (.ofNat 1152921504606846976))) sEnd))
 (kReg (sV (oConv .u64 (xT 1)) (sV (oBin .quo .no (xK (int .u64 (.ofNat 18446744073709551615))) (xL 0)) (sV (oBin .add .no (xL 0) (xK (int .u64 (.ofNat 1)))) (sS 13 (xL 0) sEnd)))))))))
 (kSeq (kReg (sV (oConv .u64 (xT 2)) (sV (oBin .shl .no (xK (int .u64 (.ofNat 1))) (xL 0)) (sV (oBin .sub .no (xL 0) (xK (int .u64 (.ofNat 1)))) (sS 15 (xL 0) sEnd)))))
 (kSeq (kReg (sS 18 (xK (bool false)) sEnd))
 (kSeq (kReg (sS 14 (xK (int .u64 (.ofNat 0))) sEnd))
 (kSeq (kSeq (kReg (sH (oS2b 5 (xT 0)) (sS 9 (xL 0) (sV (oLenL (xT 9)) (sS 6 (xL 0) (sS 7 (ki 0) sEnd))))))
 (kBlock 3 (kLoop (kSeq (kReg (sV (oBin .lss .no (xT 7) (xT 6)) (sS 8 (xL 0) sEnd)))
 (kSeq (kCond (xT 8) kSkip
 (kExit 3))
 (kSeq (kBlock 4 (kSeq (kReg (sV (oIaddr 1 (xT 9) (xT 7)) (sV (oLoad (xL 0)) (sS 11 (xL 0) sEnd))))
 (kSeq (kReg (sS 12 (xK (int .u8 (.ofNat 0))) sEnd))
 (kSeq (kBlock 5 (kRegC (fun k => (sV (oBin .eql .no (xT 11) (xK (int .u8 (.ofNat 95)))) (sG (xL 0) true (sV (oMov (xT 10))) (sV (oPick (xL 1) (xL 0) (xK (bool false))) k)))) (xL 0) (kSeq (kReg (sS 18 (xK (bool true)) sEnd))
 (kExit 4))
 (kRegC (fun k => (sV (oBin .leq .no (xK (int .u8 (.ofNat 48))) (xT 11)) (sG (xL 0) true (sV (oMov (xT 11))) (sG (xL 1) true (sV (oBin .leq .no (xL 0) (xK (int .u8 (.ofNat 57))))) (sV (oPick (xL 2) (xL 0) (xK (bool false))) k))))) (xL 0) (kReg (sV (oBin .sub .no (xT 11) (xK (int .u8 (.ofNat 48)))) (sS 12 (xL 0) sEnd)))
 (kRegC (fun k => (sC (cFn 371) [(xT 11)] (sV (oBin .leq .no (xK (int .u8 (.ofNat 97))) (xL 0)) (sG (xL 0) true (sV (oMov (xT 11))) (sG (xL 1) true (sC (cFn 371) [(xL 0)]) (sG (xL 2) true (sV (oBin .leq .no (xL 0) (xK (int .u8 (.ofNat 122))))) (sV (oPick (xL 3) (xL 0) (xK (bool false))) k))))))) (xL 0) (kReg (sC (cFn 371) [(xT 11)] (sV (oBin .sub .no (xL 0) (xK (int .u8 (.ofNat 97)))) (sV (oBin .add .no (xL 0) (xK (int .u8 (.ofNat 10)))) (sS 12 (xL 0) sEnd)))))
 (kSeq (kReg (sV (oMkif 464 (ki 2)) (sS 3 (xK (int .u64 (.ofNat 0))) (sS 4 (xL 0) sEnd))))
 kRet)))))
 (kSeq (kRegC (fun k => (sV (oConv .u8 (xT 1)) (sV (oBin .geq .no (xT 12) (xL 0)) k))) (xL 0) (kSeq (kReg (sV (oMkif 464 (ki 2)) (sS 3 (xK (int .u64 (.ofNat 0))) (sS 4 (xL 0) sEnd))))
 kRet)
 kSkip)
 (kSeq (kRegC (fun k => (sV (oBin .geq .no (xT 14) (xT 13)) k)) (xL 0) (kSeq (kReg (sV (oMkif 464 (ki 1)) (sS 3 (xT 15) (sS 4 (xL 0) sEnd))))
 kRet)
 kSkip)
 (kSeq (kReg (sV (oMov (xT 14)) (sV (oConv .u64 (xT 1)) (sV (oBin .mul .no (xL 1) (xL 0)) (sS 14 (xL 0) sEnd)))))
 (kSeq (kReg (sV (oConv .u64 (xT 12)) (sV (oBin .add .no (xT 14) (xL 0)) (sS 16 (xL 0) sEnd))))
 (kSeq (kRegC (fun k => (sV (oBin .lss .no (xT 16) (xT 14)) (sG (xL 0) false (sV (oMov (xT 16))) (sG (xL 1) false (sV (oMov (xT 15))) (sG (xL 2) false (sV (oBin .gtr .no (xL 1) (xL 0))) (sV (oPick (xL 3) (xK (bool true)) (xL 0)) k)))))) (xL 0) (kSeq (kReg (sV (oMkif 464 (ki 1)) (sS 3 (xT 15) (sS 4 (xL 0) sEnd))))
 kRet)
 kSkip)
 (kReg (sS 14 (xT 16) sEnd)))))))))))
 (kReg (sV (oBin .add .no (xT 7) (ki 1)) (sS 7 (xL 0) sEnd)))))))))
 (kSeq (kRegC (fun k => (sG (xT 18) true (sV (oMov (xT 17))) (sG (xT 18) true (sC (cFn 372) [(xL 0)]) (sG (xT 18) true (sV (oUn .not (xL 0))) (sV (oPick (xT 18) (xL 0) (xK (bool false))) k))))) (xL 0) (kSeq (kReg (sV (oMkif 464 (ki 2)) (sS 3 (xK (int .u64 (.ofNat 0))) (sS 4 (xL 0) sEnd))))
 kRet)
 kSkip)
 (kSeq (kReg (sS 3 (xT 14) (sS 4 (xK nilif) sEnd)))
 kRet))))))))))))))
theorem t335 : FF d335 Tryz.f335 a335 [(.t 3), (.t 4)] := ff Tryz.func335 (by kernel_rfl)
def x335 : XFn := .go a335 3 pd16 [(.t 3), (.t 4)]
def d336 : FD := ⟨336, 2, [4]⟩
def a336 : CodeF := (kSeq (kReg (sS 2 (xK nilptr) sEnd))
 (kSeq (kDraw [(.v (oMov (xT 0)), none), (.v (oMov (xT 1)), none), (.c (cFn 373) [(xL 0)], none), (.v (oLoad (xK (ptr 2 0))), none), (.v (oBuild [(str []), (str []), nilif] [(0, 1, (xL 3)), (1, 1, (xL 1)), (2, 1, (xL 0))]), none), (.h (oBox 491 3 (xL 0)), none), (.v (oMov (xL 0)), none)] 0 [none, none, (some 0)] [(3, 4)])
 kRet))
theorem t336 : FF d336 Tryz.f336 a336 [(.t 2)] := ff Tryz.func336 (by kernel_rfl)
def x336 : XFn := .go a336 2 pd1 [(.t 2)]
def d337 : FD := ⟨337, 2, [4]⟩
def a337 : CodeF := (kSeq (kReg (sS 2 (xK nilptr) sEnd))
 (kSeq (kDraw [(.v (oMov (xT 0)), none), (.v (oMov (xT 1)), none), (.c (cFn 373) [(xL 0)], none), (.v (oLoad (xK (ptr 3 0))), none), (.v (oBuild [(str []), (str []), nilif] [(0, 1, (xL 3)), (1, 1, (xL 1)), (2, 1, (xL 0))]), none), (.h (oBox 491 3 (xL 0)), none), (.v (oMov (xL 0)), none)] 0 [none, none, (some 0)] [(3, 4)])
 kRet))
theorem t337 : FF d337 Tryz.f337 a337 [(.t 2)] := ff Tryz.func337 (by kernel_rfl)
def x337 : XFn := .go a337 2 pd1 [(.t 2)]
def d338 : FD := ⟨338, 3, [6]⟩
def a338 : CodeF := (kSeq (kReg (sS 3 (xK nilptr) sEnd))
 (kSeq (kReg (sC (cFn 373) [(xT 1)] (sC (cFn 375) [(xT 2)] (sV (oBin .add .no (xK (str [105, 110, 118, 97, 108, 105, 100, 32, 98, 97, 115, 101, 32])) (xL 0)) (sC (cFn 374) [(xL 0)] (sV (oBuild [(str []), (str []), nilif] [(0, 1, (xT 0)), (1, 1, (xL 3)), (2, 1, (xL 0))]) (sH (oBox 491 3 (xL 0)) (sS 3 (xL 0) sEnd))))))))
 kRet))
theorem t338 : FF d338 Tryz.f338 a338 [(.t 3)] := ff Tryz.func338 (by kernel_rfl)
def x338 : XFn := .go a338 3 pd1 [(.t 3)]
def d339 : FD := ⟨339, 3, [6]⟩
def a339 : CodeF := (kSeq (kReg (sS 3 (xK nilptr) sEnd))
 (kSeq (kReg (sC (cFn 373) [(xT 1)] (sC (cFn 375) [(xT 2)] (sV (oBin .add .no (xK (str [105, 110, 118, 97, 108, 105, 100, 32, 98, 105, 116, 32, 115, 105, 122, 101, 32])) (xL 0)) (sC (cFn 374) [(xL 0)] (sV (oBuild [(str []), (str []), nilif] [(0, 1, (xT 0)), (1, 1, (xL 3)), (2, 1, (xL 0))]) (sH (oBox 491 3 (xL 0)) (sS 3 (xL 0) sEnd))))))))
 kRet))
theorem t339 : FF d339 Tryz.f339 a339 [(.t 3)] := ff Tryz.func339 (by kernel_rfl)
def x339 : XFn := .go a339 3 pd1 [(.t 3)]
def d340 : FD := ⟨340, 4, [8, 9, 36, 52]⟩
def a340 : CodeF := (kSeq (kReg (sS 4 (xT 1) sEnd))
 (kBlock 0 (kLoop (kBlock 1 (kSeq (kReg (sV (oBin .mul .no (ki 2) (xT 4)) (sV (oBin .add .no (xL 0) (ki 1)) (sS 5 (xL 0) sEnd))))
 (kSeq (kRegC (fun k => (sV (oBin .geq .no (xT 5) (xT 2)) k)) (xL 0) (kExit 0)
 kSkip)
 (kSeq (kSeq (kDraw [(.v (oMov (xT 5)), none), (.v (oBin .add .no (xL 0) (ki 1)), none), (.v (oMov (xT 2)), none), (.v (oBin .lss .no (xL 1) (xL 0)), none), (.v (oMov (xL 0)), none), (.v (oMov (xT 0)), (some ((xL 0), true))), (.v (oMov (xT 3)), (some ((xL 1), true))), (.v (oMov (xT 5)), (some ((xL 2), true))), (.v (oBin .add .no (xL 1) (xL 0)), (some ((xL 3), true))), (.v (oIaddr 1 (xL 3) (xL 0)), (some ((xL 4), true))), (.v (oLoad (xL 0)), (some ((xL 5), true))), (.v (oMov (xT 0)), (some ((xL 6), true))), (.v (oMov (xT 3)), (some ((xL 7), true))), (.v (oMov (xT 5)), (some ((xL 8), true))), (.v (oBin .add .no (xL 1) (xL 0)), (some ((xL 9), true))), (.v (oBin .add .no (xL 0) (ki 1)), (some ((xL 10), true))), (.v (oIaddr 1 (xL 4) (xL 0)), (some ((xL 11), true))), (.v (oLoad (xL 0)), (some ((xL 12), true))), (.c (cFn 256) [(xL 7), (xL 0)], (some ((xL 13), true))), (.v (oPick (xL 14) (xL 0) (xK (bool false))), none)] 0 [none, none, none, none, none, none, (some 0), none] [])
 (kCond (xT 6) (kReg (sV (oMov (xT 5)) (sV (oBin .add .no (xL 0) (ki 1)) (sS 5 (xL 0) sEnd))))
 kSkip))
 (kSeq (kSeq (kDraw [(.v (oMov (xT 0)), none), (.v (oMov (xT 3)), none), (.v (oMov (xT 4)), none), (.v (oBin .add .no (xL 1) (xL 0)), none), (.v (oIaddr 1 (xL 3) (xL 0)), none), (.v (oLoad (xL 0)), none), (.v (oMov (xT 0)), none), (.v (oMov (xT 3)), none), (.v (oMov (xT 5)), none), (.v (oBin .add .no (xL 1) (xL 0)), none), (.v (oIaddr 1 (xL 3) (xL 0)), none), (.v (oLoad (xL 0)), none), (.c (cFn 256) [(xL 6), (xL 0)], none), (.v (oUn .not (xL 0)), none)] 0 [none, none, none, none, none, none, none, (some 0)] [])
 (kCond (xT 7) kRet
 kSkip))
 (kSeq (kDraw [(.v (oMov (xT 0)), none), (.v (oMov (xT 3)), none), (.v (oMov (xT 4)), none), (.v (oBin .add .no (xL 1) (xL 0)), none), (.v (oMov (xT 0)), none), (.v (oMov (xT 3)), none), (.v (oMov (xT 5)), none), (.v (oBin .add .no (xL 1) (xL 0)), none), (.v (oMov (xT 0)), none), (.v (oMov (xT 3)), none), (.v (oMov (xT 5)), none), (.v (oBin .add .no (xL 1) (xL 0)), none), (.v (oIaddr 1 (xL 3) (xL 0)), none), (.v (oLoad (xL 0)), none), (.v (oMov (xT 0)), none), (.v (oMov (xT 3)), none), (.v (oMov (xT 4)), none), (.v (oBin .add .no (xL 1) (xL 0)), none), (.v (oIaddr 1 (xL 3) (xL 0)), none), (.v (oLoad (xL 0)), none), (.v (oIaddr 1 (xL 19) (xL 16)), none), (.h (oStore 1 (xL 0) (xL 7)), none), (.v (oIaddr 1 (xL 17) (xL 14)), none), (.h (oStore 1 (xL 0) (xL 3)), none)] 0 [none, none, none, none, none, none, none, none] [])
 (kReg (sS 4 (xT 5) sEnd)))))))))))
theorem t340 : FF d340 Tryz.f340 a340 [] := ff Tryz.func340 (by kernel_rfl)
def x340 : XFn := .go a340 4 pd4 []
def d341 : FD := ⟨341, 1, [2]⟩
def a341 : CodeF := (kSeq (kReg (sS 1 (xK (int .u64 (.ofNat 0))) sEnd))
 (kSeq (kReg (sV (oConv .u64 (xT 0)) (sC (cFn 237) [(xL 0)] (sV (oBin .shl .no (xK (int .u64 (.ofNat 1))) (xL 0)) (sS 1 (xL 0) sEnd)))))
 kRet))
theorem t341 : FF d341 Tryz.f341 a341 [(.t 1)] := ff Tryz.func341 (by kernel_rfl)
def x341 : XFn := .go a341 1 pd1 [(.t 1)]
def d342 : FD := ⟨342, 1, [2]⟩
def a342 : CodeF := (kSeq (kReg (sS 1 (xK (int .u64 (.ofNat 0))) sEnd))
 (kSeq (kDraw [(.v (oMov (xT 0)), none), (.v (oNilc (xL 0)), none), (.v (oLoad (xL 0)), none), (.v (oMov (xT 0)), none), (.v (oNilc (xL 0)), none), (.v (oLoad (xL 0)), none), (.v (oBin .shl .no (xL 0) (xK (int .u64 (.ofNat 13)))), none), (.v (oBin .xor .no (xL 4) (xL 0)), none), (.v (oNilc (xL 7)), none), (.h (oStore 1 (xL 0) (xL 1)), none)] 0 [none, none] [])
 (kSeq (kDraw [(.v (oMov (xT 0)), none), (.v (oNilc (xL 0)), none), (.v (oLoad (xL 0)), none), (.v (oMov (xT 0)), none), (.v (oNilc (xL 0)), none), (.v (oLoad (xL 0)), none), (.v (oBin .shr .no (xL 0) (xK (int .u64 (.ofNat 7)))), none), (.v (oBin .xor .no (xL 4) (xL 0)), none), (.v (oNilc (xL 7)), none), (.h (oStore 1 (xL 0) (xL 1)), none)] 0 [none, none] [])
 (kSeq (kDraw [(.v (oMov (xT 0)), none), (.v (oNilc (xL 0)), none), (.v (oLoad (xL 0)), none), (.v (oMov (xT 0)), none), (.v (oNilc (xL 0)), none), (.v (oLoad (xL 0)), none), (.v (oBin .shl .no (xL 0) (xK (int .u64 (.ofNat 17)))), none), (.v (oBin .xor .no (xL 4) (xL 0)), none), (.v (oNilc (xL 7)), none), (.h (oStore 1 (xL 0) (xL 1)), none)] 0 [none, none] [])
 (kSeq (kReg (sV (oNilc (xT 0)) (sV (oLoad (xL 0)) (sS 1 (xL 0) sEnd))))
 kRet)))))
theorem t342 : FF d342 Tryz.f342 a342 [(.t 1)] := ff Tryz.func342 (by kernel_rfl)
def x342 : XFn := .go a342 1 pd1 [(.t 1)]
def d343 : FD := ⟨343, 3, [6]⟩
def a343 : CodeF := (kSeq (kReg (sS 3 (ki 0) sEnd))
 (kSeq (kReg (sV (oBin .sub .no (xT 1) (ki 1)) (sV (oBin .add .no (xT 1) (ki 1)) (sC (cFn 344) [(xT 0), (xL 1), (xT 1), (xL 0), (xT 2)] (sS 3 (xL 0) sEnd)))))
 kRet))
theorem t343 : FF d343 Tryz.f343 a343 [(.t 3)] := ff Tryz.func343 (by kernel_rfl)
def x343 : XFn := .go a343 3 pd1 [(.t 3)]
def d344 : FD := ⟨344, 5, [10]⟩
def a344 : CodeF := (kSeq (kReg (sS 5 (ki 0) sEnd))
 (kSeq (kReg (sV (oMov (xT 1)) (sV (oMov (xT 2)) (sC (cFn 376) [(xT 0), (xL 1), (xL 0), (xT 4)] (sV (oExt 0 (xL 0)) (sV (oExt 1 (xL 1)) (sS 1 (xL 1) (sS 2 (xL 0) sEnd))))))))
 (kSeq (kReg (sV (oMov (xT 2)) (sV (oMov (xT 3)) (sC (cFn 376) [(xT 0), (xL 1), (xL 0), (xT 4)] (sV (oExt 0 (xL 0)) (sV (oExt 1 (xL 1)) (sS 2 (xL 1) (sS 3 (xL 0) sEnd))))))))
 (kSeq (kReg (sV (oMov (xT 1)) (sV (oMov (xT 2)) (sC (cFn 376) [(xT 0), (xL 1), (xL 0), (xT 4)] (sV (oExt 0 (xL 0)) (sV (oExt 1 (xL 1)) (sS 1 (xL 1) (sS 2 (xL 0) sEnd))))))))
 (kSeq (kReg (sS 5 (xT 2) sEnd))
 kRet)))))
theorem t344 : FF d344 Tryz.f344 a344 [(.t 5)] := ff Tryz.func344 (by kernel_rfl)
def x344 : XFn := .go a344 5 pd1 [(.t 5)]
def d345 : FD := ⟨345, 4, [8, 9, 36, 52]⟩
def a345 : CodeF := (kSeq (kReg (sS 4 (xT 1) sEnd))
 (kBlock 0 (kLoop (kBlock 1 (kSeq (kReg (sV (oBin .mul .no (ki 2) (xT 4)) (sV (oBin .add .no (xL 0) (ki 1)) (sS 5 (xL 0) sEnd))))
 (kSeq (kRegC (fun k => (sV (oBin .geq .no (xT 5) (xT 2)) k)) (xL 0) (kExit 0)
 kSkip)
 (kSeq (kSeq (kDraw [(.v (oMov (xT 5)), none), (.v (oBin .add .no (xL 0) (ki 1)), none), (.v (oMov (xT 2)), none), (.v (oBin .lss .no (xL 1) (xL 0)), none), (.v (oMov (xL 0)), none), (.v (oMov (xT 0)), (some ((xL 0), true))), (.v (oMov (xT 3)), (some ((xL 1), true))), (.v (oMov (xT 5)), (some ((xL 2), true))), (.v (oBin .add .no (xL 1) (xL 0)), (some ((xL 3), true))), (.v (oIaddr 1 (xL 3) (xL 0)), (some ((xL 4), true))), (.v (oLoad (xL 0)), (some ((xL 5), true))), (.v (oMov (xT 0)), (some ((xL 6), true))), (.v (oMov (xT 3)), (some ((xL 7), true))), (.v (oMov (xT 5)), (some ((xL 8), true))), (.v (oBin .add .no (xL 1) (xL 0)), (some ((xL 9), true))), (.v (oBin .add .no (xL 0) (ki 1)), (some ((xL 10), true))), (.v (oIaddr 1 (xL 4) (xL 0)), (some ((xL 11), true))), (.v (oLoad (xL 0)), (some ((xL 12), true))), (.c (cFn 299) [(xL 7), (xL 0)], (some ((xL 13), true))), (.v (oPick (xL 14) (xL 0) (xK (bool false))), none)] 0 [none, none, none, none, none, none, (some 0), none] [])
 (kCond (xT 6) (kReg (sV (oMov (xT 5)) (sV (oBin .add .no (xL 0) (ki 1)) (sS 5 (xL 0) sEnd))))
 kSkip))
 (kSeq (kSeq (kDraw [(.v (oMov (xT 0)), none), (.v (oMov (xT 3)), none), (.v (oMov (xT 4)), none), (.v (oBin .add .no (xL 1) (xL 0)), none), (.v (oIaddr 1 (xL 3) (xL 0)), none), (.v (oLoad (xL 0)), none), (.v (oMov (xT 0)), none), (.v (oMov (xT 3)), none), (.v (oMov (xT 5)), none), (.v (oBin .add .no (xL 1) (xL 0)), none), (.v (oIaddr 1 (xL 3) (xL 0)), none), (.v (oLoad (xL 0)), none), (.c (cFn 299) [(xL 6), (xL 0)], none), (.v (oUn .not (xL 0)), none)] 0 [none, none, none, none, none, none, none, (some 0)] [])
 (kCond (xT 7) kRet
 kSkip))
 (kSeq (kDraw [(.v (oMov (xT 0)), none), (.v (oMov (xT 3)), none), (.v (oMov (xT 4)), none), (.v (oBin .add .no (xL 1) (xL 0)), none), (.v (oMov (xT 0)), none), (.v (oMov (xT 3)), none), (.v (oMov (xT 5)), none), (.v (oBin .add .no (xL 1) (xL 0)), none), (.v (oMov (xT 0)), none), (.v (oMov (xT 3)), none), (.v (oMov (xT 5)), none), (.v (oBin .add .no (xL 1) (xL 0)), none), (.v (oIaddr 1 (xL 3) (xL 0)), none), (.v (oLoad (xL 0)), none), (.v (oMov (xT 0)), none), (.v (oMov (xT 3)), none), (.v (oMov (xT 4)), none), (.v (oBin .add .no (xL 1) (xL 0)), none), (.v (oIaddr 1 (xL 3) (xL 0)), none), (.v (oLoad (xL 0)), none), (.v (oIaddr 1 (xL 19) (xL 16)), none), (.h (oStore 1 (xL 0) (xL 7)), none), (.v (oIaddr 1 (xL 17) (xL 14)), none), (.h (oStore 1 (xL 0) (xL 3)), none)] 0 [none, none, none, none, none, none, none, none] [])
 (kReg (sS 4 (xT 5) sEnd)))))))))))
theorem t345 : FF d345 Tryz.f345 a345 [] := ff Tryz.func345 (by kernel_rfl)
def x345 : XFn := .go a345 4 pd4 []
def d346 : FD := ⟨346, 3, [6]⟩
def a346 : CodeF := (kSeq (kReg (sS 3 (ki 0) sEnd))
 (kSeq (kReg (sV (oBin .sub .no (xT 1) (ki 1)) (sV (oBin .add .no (xT 1) (ki 1)) (sC (cFn 347) [(xT 0), (xL 1), (xT 1), (xL 0), (xT 2)] (sS 3 (xL 0) sEnd)))))
 kRet))
theorem t346 : FF d346 Tryz.f346 a346 [(.t 3)] := ff Tryz.func346 (by kernel_rfl)
def x346 : XFn := .go a346 3 pd1 [(.t 3)]
def d347 : FD := ⟨347, 5, [10]⟩
def a347 : CodeF := (kSeq (kReg (sS 5 (ki 0) sEnd))
 (kSeq (kReg (sV (oMov (xT 1)) (sV (oMov (xT 2)) (sC (cFn 377) [(xT 0), (xL 1), (xL 0), (xT 4)] (sV (oExt 0 (xL 0)) (sV (oExt 1 (xL 1)) (sS 1 (xL 1) (sS 2 (xL 0) sEnd))))))))
 (kSeq (kReg (sV (oMov (xT 2)) (sV (oMov (xT 3)) (sC (cFn 377) [(xT 0), (xL 1), (xL 0), (xT 4)] (sV (oExt 0 (xL 0)) (sV (oExt 1 (xL 1)) (sS 2 (xL 1) (sS 3 (xL 0) sEnd))))))))
 (kSeq (kReg (sV (oMov (xT 1)) (sV (oMov (xT 2)) (sC (cFn 377) [(xT 0), (xL 1), (xL 0), (xT 4)] (sV (oExt 0 (xL 0)) (sV (oExt 1 (xL 1)) (sS 1 (xL 1) (sS 2 (xL 0) sEnd))))))))
 (kSeq (kReg (sS 5 (xT 2) sEnd))
 kRet)))))
theorem t347 : FF d347 Tryz.f347 a347 [(.t 5)] := ff Tryz.func347 (by kernel_rfl)
def x347 : XFn := .go a347 5 pd1 [(.t 5)]
def d348 : FD := ⟨348, 1, [2]⟩
def a348 : CodeF := (kSeq (kReg (sS 1 (xK (bool false)) sEnd))
 (kSeq (kReg (sV (oBin .neq .no (xT 0) (xT 0)) (sS 1 (xL 0) sEnd)))
 kRet))
theorem t348 : FF d348 Tryz.f348 a348 [(.t 1)] := ff Tryz.func348 (by kernel_rfl)
def x348 : XFn := .go a348 1 pd1 [(.t 1)]
def d349 : FD := ⟨349, 4, [8, 9, 36, 52]⟩
def a349 : CodeF := (kSeq (kReg (sS 4 (xT 1) sEnd))
 (kBlock 0 (kLoop (kBlock 1 (kSeq (kReg (sV (oBin .mul .no (ki 2) (xT 4)) (sV (oBin .add .no (xL 0) (ki 1)) (sS 5 (xL 0) sEnd))))
 (kSeq (kRegC (fun k => (sV (oBin .geq .no (xT 5) (xT 2)) k)) (xL 0) (kExit 0)
 kSkip)
 (kSeq (kSeq (kDraw [(.v (oMov (xT 5)), none), (.v (oBin .add .no (xL 0) (ki 1)), none), (.v (oMov (xT 2)), none), (.v (oBin .lss .no (xL 1) (xL 0)), none), (.v (oMov (xL 0)), none), (.v (oMov (xT 0)), (some ((xL 0), true))), (.v (oMov (xT 3)), (some ((xL 1), true))), (.v (oMov (xT 5)), (some ((xL 2), true))), (.v (oBin .add .no (xL 1) (xL 0)), (some ((xL 3), true))), (.v (oIaddr 1 (xL 3) (xL 0)), (some ((xL 4), true))), (.v (oLoad (xL 0)), (some ((xL 5), true))), (.v (oMov (xT 0)), (some ((xL 6), true))), (.v (oMov (xT 3)), (some ((xL 7), true))), (.v (oMov (xT 5)), (some ((xL 8), true))), (.v (oBin .add .no (xL 1) (xL 0)), (some ((xL 9), true))), (.v (oBin .add .no (xL 0) (ki 1)), (some ((xL 10), true))), (.v (oIaddr 1 (xL 4) (xL 0)), (some ((xL 11), true))), (.v (oLoad (xL 0)), (some ((xL 12), true))), (.c (cFn 308) [(xL 7), (xL 0)], (some ((xL 13), true))), (.v (oPick (xL 14) (xL 0) (xK (bool false))), none)] 0 [none, none, none, none, none, none, (some 0), none] [])
 (kCond (xT 6) (kReg (sV (oMov (xT 5)) (sV (oBin .add .no (xL 0) (ki 1)) (sS 5 (xL 0) sEnd))))
 kSkip))
 (kSeq (kSeq (kDraw [(.v (oMov (xT 0)), none), (.v (oMov (xT 3)), none), (.v (oMov (xT 4)), none), (.v (oBin .add .no (xL 1) (xL 0)), none), (.v (oIaddr 1 (xL 3) (xL 0)), none), (.v (oLoad (xL 0)), none), (.v (oMov (xT 0)), none), (.v (oMov (xT 3)), none), (.v (oMov (xT 5)), none), (.v (oBin .add .no (xL 1) (xL 0)), none), (.v (oIaddr 1 (xL 3) (xL 0)), none), (.v (oLoad (xL 0)), none), (.c (cFn 308) [(xL 6), (xL 0)], none), (.v (oUn .not (xL 0)), none)] 0 [none, none, none, none, none, none, none, (some 0)] [])
 (kCond (xT 7) kRet
 kSkip))
 (kSeq (kDraw [(.v (oMov (xT 0)), none), (.v (oMov (xT 3)), none), (.v (oMov (xT 4)), none), (.v (oBin .add .no (xL 1) (xL 0)), none), (.v (oMov (xT 0)), none), (.v (oMov (xT 3)), none), (.v (oMov (xT 5)), none), (.v (oBin .add .no (xL 1) (xL 0)), none), (.v (oMov (xT 0)), none), (.v (oMov (xT 3)), none), (.v (oMov (xT 5)), none), (.v (oBin .add .no (xL 1) (xL 0)), none), (.v (oIaddr 1 (xL 3) (xL 0)), none), (.v (oLoad (xL 0)), none), (.v (oMov (xT 0)), none), (.v (oMov (xT 3)), none), (.v (oMov (xT 4)), none), (.v (oBin .add .no (xL 1) (xL 0)), none), (.v (oIaddr 1 (xL 3) (xL 0)), none), (.v (oLoad (xL 0)), none), (.v (oIaddr 1 (xL 19) (xL 16)), none), (.h (oStore 1 (xL 0) (xL 7)), none), (.v (oIaddr 1 (xL 17) (xL 14)), none), (.h (oStore 1 (xL 0) (xL 3)), none)] 0 [none, none, none, none, none, none, none, none] [])
 (kReg (sS 4 (xT 5) sEnd)))))))))))
theorem t349 : FF d349 Tryz.f349 a349 [] := ff Tryz.func349 (by kernel_rfl)
def x349 : XFn := .go a349 4 pd4 []
def d350 : FD := ⟨350, 3, [6]⟩
def a350 : CodeF := (kSeq (kReg (sS 3 (ki 0) sEnd))
 (kSeq (kReg (sV (oBin .sub .no (xT 1) (ki 1)) (sV (oBin .add .no (xT 1) (ki 1)) (sC (cFn 351) [(xT 0), (xL 1), (xT 1), (xL 0), (xT 2)] (sS 3 (xL 0) sEnd)))))
 kRet))
theorem t350 : FF d350 Tryz.f350 a350 [(.t 3)] := ff Tryz.func350 (by kernel_rfl)
def x350 : XFn := .go a350 3 pd1 [(.t 3)]
def d351 : FD := ⟨351, 5, [10]⟩
def a351 : CodeF := (kSeq (kReg (sS 5 (ki 0) sEnd))
 (kSeq (kReg (sV (oMov (xT 1)) (sV (oMov (xT 2)) (sC (cFn 378) [(xT 0), (xL 1), (xL 0), (xT 4)] (sV (oExt 0 (xL 0)) (sV (oExt 1 (xL 1)) (sS 1 (xL 1) (sS 2 (xL 0) sEnd))))))))
 (kSeq (kReg (sV (oMov (xT 2)) (sV (oMov (xT 3)) (sC (cFn 378) [(xT 0), (xL 1), (xL 0), (xT 4)] (sV (oExt 0 (xL 0)) (sV (oExt 1 (xL 1)) (sS 2 (xL 1) (sS 3 (xL 0) sEnd))))))))
 (kSeq (kReg (sV (oMov (xT 1)) (sV (oMov (xT 2)) (sC (cFn 378) [(xT 0), (xL 1), (xL 0), (xT 4)] (sV (oExt 0 (xL 0)) (sV (oExt 1 (xL 1)) (sS 1 (xL 1) (sS 2 (xL 0) sEnd))))))))
 (kSeq (kReg (sS 5 (xT 2) sEnd))
 kRet)))))
theorem t351 : FF d351 Tryz.f351 a351 [(.t 5)] := ff Tryz.func351 (by kernel_rfl)
def x351 : XFn := .go a351 5 pd1 [(.t 5)]
def d352 : FD := ⟨352, 1, [2]⟩
def a352 : CodeF := (kSeq (kReg (sS 1 (xK (bool false)) sEnd))
 (kSeq (kReg (sV (oBin .neq .no (xT 0) (xT 0)) (sS 1 (xL 0) sEnd)))
 kRet))
theorem t352 : FF d352 Tryz.f352 a352 [(.t 1)] := ff Tryz.func352 (by kernel_rfl)
def x352 : XFn := .go a352 1 pd1 [(.t 1)]
def d353 : FD := ⟨353, 4, [8, 9, 34]⟩
def a353 : CodeF := (kSeq (kReg (sV (oBin .add .no (xT 1) (ki 1)) (sS 4 (xL 0) sEnd)))
 (kBlock 0 (kLoop (kSeq (kRegC (fun k => (sV (oBin .lss .no (xT 4) (xT 2)) k)) (xL 0) kSkip
 (kExit 0))
 (kSeq (kBlock 1 (kSeq (kReg (sS 5 (xT 4) sEnd))
 (kBlock 2 (kLoop (kSeq (kSeq (kDraw [(.v (oMov (xT 5)), none), (.v (oMov (xT 1)), none), (.v (oBin .gtr .no (xL 1) (xL 0)), none), (.v (oMov (xL 0)), none), (.v (oMov (xT 3)), (some ((xL 0), true))), (.v (oMov (xT 0)), (some ((xL 1), true))), (.v (oMov (xT 5)), (some ((xL 2), true))), (.v (oIaddr 2 (xL 1) (xL 0)), (some ((xL 3), true))), (.v (oLoadN 2 (xL 0)), (some ((xL 4), true))), (.v (oMov (xT 0)), (some ((xL 5), true))), (.v (oMov (xT 5)), (some ((xL 6), true))), (.v (oBin .sub .no (xL 0) (ki 1)), (some ((xL 7), true))), (.v (oIaddr 2 (xL 2) (xL 0)), (some ((xL 8), true))), (.v (oLoadN 2 (xL 0)), (some ((xL 9), true))), (.c (cVal (xL 9)) [(xL 5), (xL 0)], (some ((xL 10), true))), (.v (oBin .lss .no (xL 0) (ki 0)), (some ((xL 11), true))), (.v (oPick (xL 12) (xL 0) (xK (bool false))), none)] 0 [none, none, none, none, none, none, (some 0)] [])
 (kCond (xT 6) kSkip
 (kExit 2)))
 (kSeq (kBlock 3 (kDraw [(.v (oMov (xT 0)), none), (.v (oMov (xT 5)), none), (.v (oMov (xT 0)), none), (.v (oMov (xT 5)), none), (.v (oBin .sub .no (xL 0) (ki 1)), none), (.v (oMov (xT 0)), none), (.v (oMov (xT 5)), none), (.v (oBin .sub .no (xL 0) (ki 1)), none), (.v (oIaddr 2 (xL 2) (xL 0)), none), (.v (oLoadN 2 (xL 0)), none), (.v (oMov (xT 0)), none), (.v (oMov (xT 5)), none), (.v (oIaddr 2 (xL 1) (xL 0)), none), (.v (oLoadN 2 (xL 0)), none), (.v (oIaddr 2 (xL 13) (xL 12)), none), (.h (oStore 2 (xL 0) (xL 5)), none), (.v (oIaddr 2 (xL 13) (xL 11)), none), (.h (oStore 2 (xL 0) (xL 3)), none)] 0 [none, none, none, none, none, none, none] []))
 (kReg (sV (oMov (xT 5)) (sV (oBin .sub .no (xL 0) (ki 1)) (sS 5 (xL 0) sEnd))))))))))
 (kReg (sV (oMov (xT 4)) (sV (oBin .add .no (xL 0) (ki 1)) (sS 4 (xL 0) sEnd)))))))))
theorem t353 : FF d353 Tryz.f353 a353 [] := ff Tryz.func353 (by kernel_rfl)
def x353 : XFn := .go a353 4 pd3 []
def d354 : FD := ⟨354, 4, [10, 11, 8, 12, 9]⟩
def a354 : CodeF := (kSeq (kReg (sS 6 (xT 1) sEnd))
 (kSeq (kReg (sS 8 (ki 0) sEnd))
 (kSeq (kReg (sV (oBin .sub .no (xT 2) (xT 1)) (sS 4 (xL 0) sEnd)))
 (kSeq (kSeq (kReg (sV (oBin .sub .no (xT 4) (ki 1)) (sV (oBin .quo .no (xL 0) (ki 2)) (sS 5 (xL 0) sEnd))))
 (kBlock 0 (kLoop (kSeq (kRegC (fun k => (sV (oBin .geq .no (xT 5) (ki 0)) k)) (xL 0) kSkip
 (kExit 0))
 (kSeq (kBlock 1 (kReg (sC (cFn 379) [(xT 0), (xT 5), (xT 4), (xT 6), (xT 3)] sEnd)))
 (kReg (sV (oMov (xT 5)) (sV (oBin .sub .no (xL 0) (ki 1)) (sS 5 (xL 0) sEnd)))))))))
 (kSeq (kReg (sV (oBin .sub .no (xT 4) (ki 1)) (sS 7 (xL 0) sEnd)))
 (kBlock 2 (kLoop (kSeq (kRegC (fun k => (sV (oBin .geq .no (xT 7) (ki 0)) k)) (xL 0) kSkip
 (kExit 2))
 (kSeq (kBlock 3 (kSeq (kDraw [(.v (oMov (xT 0)), none), (.v (oMov (xT 6)), none), (.v (oMov (xT 0)), none), (.v (oMov (xT 6)), none), (.v (oMov (xT 7)), none), (.v (oBin .add .no (xL 1) (xL 0)), none), (.v (oMov (xT 0)), none), (.v (oMov (xT 6)), none), (.v (oMov (xT 7)), none), (.v (oBin .add .no (xL 1) (xL 0)), none), (.v (oIaddr 2 (xL 3) (xL 0)), none), (.v (oLoadN 2 (xL 0)), none), (.v (oMov (xT 0)), none), (.v (oMov (xT 6)), none), (.v (oIaddr 2 (xL 1) (xL 0)), none), (.v (oLoadN 2 (xL 0)), none), (.v (oIaddr 2 (xL 15) (xL 14)), none), (.h (oStore 2 (xL 0) (xL 5)), none), (.v (oIaddr 2 (xL 15) (xL 12)), none), (.h (oStore 2 (xL 0) (xL 3)), none)] 0 [none, none, none, none, none, none, none, none, none] [])
 (kReg (sC (cFn 379) [(xT 0), (xT 8), (xT 7), (xT 6), (xT 3)] sEnd))))
 (kReg (sV (oMov (xT 7)) (sV (oBin .sub .no (xL 0) (ki 1)) (sS 7 (xL 0) sEnd)))))))))))))
theorem t354 : FF d354 Tryz.f354 a354 [] := ff Tryz.func354 (by kernel_rfl)
def x354 : XFn := .go a354 4 pd5 []
def d355 : FD := ⟨355, 4, [8, 11, 10, 9, 12]⟩
def a355 : CodeF := (kSeq (kReg (sV (oBin .sub .no (xT 2) (xT 1)) (sS 4 (xL 0) sEnd)))
 (kRegC (fun k => (sV (oBin .geq .no (xT 4) (ki 8)) k)) (xL 0) (kSeq (kReg (sV (oConv .u64 (xT 4)) (sH (oAlloc 470 1 [(int .u64 (.ofNat 0))]) (sS 7 (xL 0) (sH (oStore 1 (xT 7) (xL 1)) sEnd)))))
 (kSeq (kReg (sC (cFn 341) [(xT 4)] (sS 6 (xL 0) sEnd)))
 (kSeq (kReg (sV (oBin .quo .no (xT 4) (ki 4)) (sV (oBin .mul .no (xL 0) (ki 2)) (sV (oBin .add .no (xT 1) (xL 0)) (sV (oBin .sub .no (xL 0) (ki 1)) (sS 5 (xL 0) sEnd))))))
 (kBlock 0 (kLoop (kSeq (kRegC (fun k => (sV (oBin .quo .no (xT 4) (ki 4)) (sV (oBin .mul .no (xL 0) (ki 2)) (sV (oBin .add .no (xT 1) (xL 0)) (sV (oBin .add .no (xL 0) (ki 1)) (sV (oBin .leq .no (xT 5) (xL 0)) k)))))) (xL 0) kSkip
 (kExit 0))
 (kSeq (kBlock 1 (kSeq (kReg (sC (cFn 342) [(xT 7)] (sV (oBin .sub .no (xT 6) (xK (int .u64 (.ofNat 1)))) (sV (oBin .and .no (xL 1) (xL 0)) (sV (oConv .i64 (xL 0)) (sS 8 (xL 0) sEnd))))))
 (kSeq (kRegC (fun k => (sV (oBin .geq .no (xT 8) (xT 4)) k)) (xL 0) (kReg (sV (oMov (xT 8)) (sV (oBin .sub .no (xL 0) (xT 4)) (sS 8 (xL 0) sEnd))))
 kSkip)
 (kDraw [(.v (oMov (xT 0)), none), (.v (oMov (xT 5)), none), (.v (oMov (xT 0)), none), (.v (oMov (xT 1)), none), (.v (oMov (xT 8)), none), (.v (oBin .add .no (xL 1) (xL 0)), none), (.v (oMov (xT 0)), none), (.v (oMov (xT 1)), none), (.v (oMov (xT 8)), none), (.v (oBin .add .no (xL 1) (xL 0)), none), (.v (oIaddr 2 (xL 3) (xL 0)), none), (.v (oLoadN 2 (xL 0)), none), (.v (oMov (xT 0)), none), (.v (oMov (xT 5)), none), (.v (oIaddr 2 (xL 1) (xL 0)), none), (.v (oLoadN 2 (xL 0)), none), (.v (oIaddr 2 (xL 15) (xL 14)), none), (.h (oStore 2 (xL 0) (xL 5)), none), (.v (oIaddr 2 (xL 15) (xL 12)), none), (.h (oStore 2 (xL 0) (xL 3)), none)] 0 [none, none, none, none, none, none, none, none, none] []))))
 (kReg (sV (oMov (xT 5)) (sV (oBin .add .no (xL 0) (ki 1)) (sS 5 (xL 0) sEnd)))))))))))
 kSkip))
theorem t355 : FF d355 Tryz.f355 a355 [] := ff Tryz.func355 (by kernel_rfl)
def x355 : XFn := .go a355 4 pd5 []
def d356 : FD := ⟨356, 4, [8, 9, 10, 11, 12, 13, 14, 55]⟩
def a356 : CodeF := (kSeq (kReg (sS 4 (ki 0) (sS 5 (ki 0) sEnd)))
 (kSeq (kReg (sV (oBin .sub .no (xT 2) (xT 1)) (sS 6 (xL 0) sEnd)))
 (kSeq (kReg (sH (oAlloc 3 1 [(int .i64 (.ofNat 0))]) (sS 7 (xL 0) sEnd)))
 (kSeq (kReg (sV (oBin .quo .no (xT 6) (ki 4)) (sV (oBin .mul .no (xL 0) (ki 1)) (sV (oBin .add .no (xT 1) (xL 0)) (sS 8 (xL 0) sEnd)))))
 (kSeq (kReg (sV (oBin .quo .no (xT 6) (ki 4)) (sV (oBin .mul .no (xL 0) (ki 2)) (sV (oBin .add .no (xT 1) (xL 0)) (sS 9 (xL 0) sEnd)))))
 (kSeq (kReg (sV (oBin .quo .no (xT 6) (ki 4)) (sV (oBin .mul .no (xL 0) (ki 3)) (sV (oBin .add .no (xT 1) (xL 0)) (sS 10 (xL 0) sEnd)))))
 (kSeq (kRegC (fun k => (sV (oBin .geq .no (xT 6) (ki 8)) k)) (xL 0) (kSeq (kRegC (fun k => (sV (oBin .geq .no (xT 6) (ki 50)) k)) (xL 0) (kSeq (kReg (sV (oMov (xT 8)) (sC (cFn 380) [(xT 0), (xL 0), (xT 7), (xT 3)] (sS 8 (xL 0) sEnd))))
 (kSeq (kReg (sV (oMov (xT 9)) (sC (cFn 380) [(xT 0), (xL 0), (xT 7), (xT 3)] (sS 9 (xL 0) sEnd))))
 (kReg (sV (oMov (xT 10)) (sC (cFn 380) [(xT 0), (xL 0), (xT 7), (xT 3)] (sS 10 (xL 0) sEnd))))))
 kSkip)
 (kReg (sV (oMov (xT 9)) (sC (cFn 381) [(xT 0), (xT 8), (xL 0), (xT 10), (xT 7), (xT 3)] (sS 9 (xL 0) sEnd)))))
 kSkip)
 (kSeq (kReg (sV (oLoad (xT 7)) (sS 11 (xL 0) sEnd)))
 (kBlock 0 (kRegC (fun k => (sV (oBin .eql .no (xT 11) (ki 0)) k)) (xL 0) (kSeq (kReg (sS 4 (xT 9) (sS 5 (ki 1) sEnd)))
 kRet)
 (kRegC (fun k => (sV (oBin .eql .no (xT 11) (ki 12)) k)) (xL 0) (kSeq (kReg (sS 4 (xT 9) (sS 5 (ki 2) sEnd)))
 kRet)
 (kSeq (kReg (sS 4 (xT 9) (sS 5 (ki 0) sEnd)))
 kRet))))))))))))
theorem t356 : FF d356 Tryz.f356 a356 [(.t 4), (.t 5)] := ff Tryz.func356 (by kernel_rfl)
def x356 : XFn := .go a356 4 pd8 [(.t 4), (.t 5)]
def d357 : FD := ⟨357, 4, [9, 8]⟩
def a357 : CodeF := (kSeq (kReg (sS 5 (xT 1) sEnd))
 (kSeq (kReg (sV (oBin .sub .no (xT 2) (ki 1)) (sS 4 (xL 0) sEnd)))
 (kBlock 0 (kLoop (kSeq (kRegC (fun k => (sV (oBin .lss .no (xT 5) (xT 4)) k)) (xL 0) kSkip
 (kExit 0))
 (kBlock 1 (kSeq (kDraw [(.v (oMov (xT 0)), none), (.v (oMov (xT 5)), none), (.v (oMov (xT 0)), none), (.v (oMov (xT 4)), none), (.v (oMov (xT 0)), none), (.v (oMov (xT 4)), none), (.v (oIaddr 2 (xL 1) (xL 0)), none), (.v (oLoadN 2 (xL 0)), none), (.v (oMov (xT 0)), none), (.v (oMov (xT 5)), none), (.v (oIaddr 2 (xL 1) (xL 0)), none), (.v (oLoadN 2 (xL 0)), none), (.v (oIaddr 2 (xL 11) (xL 10)), none), (.h (oStore 2 (xL 0) (xL 5)), none), (.v (oIaddr 2 (xL 11) (xL 10)), none), (.h (oStore 2 (xL 0) (xL 3)), none)] 0 [none, none, none, none, none, none] [])
 (kSeq (kReg (sV (oMov (xT 5)) (sV (oBin .add .no (xL 0) (ki 1)) (sS 5 (xL 0) sEnd))))
 (kReg (sV (oMov (xT 4)) (sV (oBin .sub .no (xL 0) (ki 1)) (sS 4 (xL 0) sEnd))))))))))))
theorem t357 : FF d357 Tryz.f357 a357 [] := ff Tryz.func357 (by kernel_rfl)
def x357 : XFn := .go a357 4 pd2 []
def d358 : FD := ⟨358, 4, [8, 10, 9, 36, 11, 84, 12, 124]⟩
def a358 : CodeF := (kSeq (kReg (sS 4 (xK (bool false)) sEnd))
 (kSeq (kReg (sV (oBin .add .no (xT 1) (ki 1)) (sS 6 (xL 0) sEnd)))
 (kSeq (kSeq (kReg (sS 5 (ki 0) sEnd))
 (kBlock 0 (kLoop (kSeq (kRegC (fun k => (sV (oBin .lss .no (xT 5) (ki 5)) k)) (xL 0) kSkip
 (kExit 0))
 (kSeq (kBlock 1 (kSeq (kBlock 2 (kLoop (kSeq (kSeq (kDraw [(.v (oMov (xT 6)), none), (.v (oMov (xT 2)), none), (.v (oBin .lss .no (xL 1) (xL 0)), none), (.v (oMov (xL 0)), none), (.v (oMov (xT 3)), (some ((xL 0), true))), (.v (oMov (xT 0)), (some ((xL 1), true))), (.v (oMov (xT 6)), (some ((xL 2), true))), (.v (oIaddr 2 (xL 1) (xL 0)), (some ((xL 3), true))), (.v (oLoadN 2 (xL 0)), (some ((xL 4), true))), (.v (oMov (xT 0)), (some ((xL 5), true))), (.v (oMov (xT 6)), (some ((xL 6), true))), (.v (oBin .sub .no (xL 0) (ki 1)), (some ((xL 7), true))), (.v (oIaddr 2 (xL 2) (xL 0)), (some ((xL 8), true))), (.v (oLoadN 2 (xL 0)), (some ((xL 9), true))), (.c (cVal (xL 9)) [(xL 5), (xL 0)], (some ((xL 10), true))), (.v (oBin .lss .no (xL 0) (ki 0)), (some ((xL 11), true))), (.v (oUn .not (xL 0)), (some ((xL 12), true))), (.v (oPick (xL 13) (xL 0) (xK (bool false))), none)] 0 [none, none, none, none, none, none, none, (some 0), none, none, none, none] [])
 (kCond (xT 7) kSkip
 (kExit 2)))
 (kBlock 3 (kReg (sV (oMov (xT 6)) (sV (oBin .add .no (xL 0) (ki 1)) (sS 6 (xL 0) sEnd))))))))
 (kSeq (kRegC (fun k => (sV (oBin .eql .no (xT 6) (xT 2)) k)) (xL 0) (kSeq (kReg (sS 4 (xK (bool true)) sEnd))
 kRet)
 kSkip)
 (kSeq (kRegC (fun k => (sV (oBin .sub .no (xT 2) (xT 1)) (sV (oBin .lss .no (xL 0) (ki 50)) k))) (xL 0) (kSeq (kReg (sS 4 (xK (bool false)) sEnd))
 kRet)
 kSkip)
 (kSeq (kDraw [(.v (oMov (xT 0)), none), (.v (oMov (xT 6)), none), (.v (oMov (xT 0)), none), (.v (oMov (xT 6)), none), (.v (oBin .sub .no (xL 0) (ki 1)), none), (.v (oMov (xT 0)), none), (.v (oMov (xT 6)), none), (.v (oBin .sub .no (xL 0) (ki 1)), none), (.v (oIaddr 2 (xL 2) (xL 0)), none), (.v (oLoadN 2 (xL 0)), none), (.v (oMov (xT 0)), none), (.v (oMov (xT 6)), none), (.v (oIaddr 2 (xL 1) (xL 0)), none), (.v (oLoadN 2 (xL 0)), none), (.v (oIaddr 2 (xL 13) (xL 12)), none), (.h (oStore 2 (xL 0) (xL 5)), none), (.v (oIaddr 2 (xL 13) (xL 11)), none), (.h (oStore 2 (xL 0) (xL 3)), none)] 0 [none, none, none, none, none, none, none, none, none, none, none, none] [])
 (kSeq (kRegC (fun k => (sV (oBin .sub .no (xT 6) (xT 1)) (sV (oBin .geq .no (xL 0) (ki 2)) k))) (xL 0) (kSeq (kReg (sV (oBin .sub .no (xT 6) (ki 1)) (sS 8 (xL 0) sEnd)))
 (kBlock 4 (kLoop (kSeq (kRegC (fun k => (sV (oBin .geq .no (xT 8) (ki 1)) k)) (xL 0) kSkip
 (kExit 4))
 (kSeq (kBlock 5 (kSeq (kSeq (kDraw [(.v (oMov (xT 3)), none), (.v (oMov (xT 0)), none), (.v (oMov (xT 8)), none), (.v (oIaddr 2 (xL 1) (xL 0)), none), (.v (oLoadN 2 (xL 0)), none), (.v (oMov (xT 0)), none), (.v (oMov (xT 8)), none), (.v (oBin .sub .no (xL 0) (ki 1)), none), (.v (oIaddr 2 (xL 2) (xL 0)), none), (.v (oLoadN 2 (xL 0)), none), (.c (cVal (xL 9)) [(xL 5), (xL 0)], none), (.v (oBin .lss .no (xL 0) (ki 0)), none), (.v (oUn .not (xL 0)), none)] 0 [none, none, none, none, none, none, none, none, none, (some 0), none, none] [])
 (kCond (xT 9) (kExit 4)
 kSkip))
 (kDraw [(.v (oMov (xT 0)), none), (.v (oMov (xT 8)), none), (.v (oMov (xT 0)), none), (.v (oMov (xT 8)), none), (.v (oBin .sub .no (xL 0) (ki 1)), none), (.v (oMov (xT 0)), none), (.v (oMov (xT 8)), none), (.v (oBin .sub .no (xL 0) (ki 1)), none), (.v (oIaddr 2 (xL 2) (xL 0)), none), (.v (oLoadN 2 (xL 0)), none), (.v (oMov (xT 0)), none), (.v (oMov (xT 8)), none), (.v (oIaddr 2 (xL 1) (xL 0)), none), (.v (oLoadN 2 (xL 0)), none), (.v (oIaddr 2 (xL 13) (xL 12)), none), (.h (oStore 2 (xL 0) (xL 5)), none), (.v (oIaddr 2 (xL 13) (xL 11)), none), (.h (oStore 2 (xL 0) (xL 3)), none)] 0 [none, none, none, none, none, none, none, none, none, none, none, none] [])))
 (kReg (sV (oMov (xT 8)) (sV (oBin .sub .no (xL 0) (ki 1)) (sS 8 (xL 0) sEnd)))))))))
 kSkip)
 (kRegC (fun k => (sV (oBin .sub .no (xT 2) (xT 6)) (sV (oBin .geq .no (xL 0) (ki 2)) k))) (xL 0) (kSeq (kReg (sV (oBin .add .no (xT 6) (ki 1)) (sS 10 (xL 0) sEnd)))
 (kBlock 6 (kLoop (kSeq (kRegC (fun k => (sV (oBin .lss .no (xT 10) (xT 2)) k)) (xL 0) kSkip
 (kExit 6))
 (kSeq (kBlock 7 (kSeq (kSeq (kDraw [(.v (oMov (xT 3)), none), (.v (oMov (xT 0)), none), (.v (oMov (xT 10)), none), (.v (oIaddr 2 (xL 1) (xL 0)), none), (.v (oLoadN 2 (xL 0)), none), (.v (oMov (xT 0)), none), (.v (oMov (xT 10)), none), (.v (oBin .sub .no (xL 0) (ki 1)), none), (.v (oIaddr 2 (xL 2) (xL 0)), none), (.v (oLoadN 2 (xL 0)), none), (.c (cVal (xL 9)) [(xL 5), (xL 0)], none), (.v (oBin .lss .no (xL 0) (ki 0)), none), (.v (oUn .not (xL 0)), none)] 0 [none, none, none, none, none, none, none, none, none, none, none, (some 0)] [])
 (kCond (xT 11) (kExit 6)
 kSkip))
 (kDraw [(.v (oMov (xT 0)), none), (.v (oMov (xT 10)), none), (.v (oMov (xT 0)), none), (.v (oMov (xT 10)), none), (.v (oBin .sub .no (xL 0) (ki 1)), none), (.v (oMov (xT 0)), none), (.v (oMov (xT 10)), none), (.v (oBin .sub .no (xL 0) (ki 1)), none), (.v (oIaddr 2 (xL 2) (xL 0)), none), (.v (oLoadN 2 (xL 0)), none), (.v (oMov (xT 0)), none), (.v (oMov (xT 10)), none), (.v (oIaddr 2 (xL 1) (xL 0)), none), (.v (oLoadN 2 (xL 0)), none), (.v (oIaddr 2 (xL 13) (xL 12)), none), (.h (oStore 2 (xL 0) (xL 5)), none), (.v (oIaddr 2 (xL 13) (xL 11)), none), (.h (oStore 2 (xL 0) (xL 3)), none)] 0 [none, none, none, none, none, none, none, none, none, none, none, none] [])))
 (kReg (sV (oMov (xT 10)) (sV (oBin .add .no (xL 0) (ki 1)) (sS 10 (xL 0) sEnd)))))))))
 kSkip)))))))
 (kReg (sV (oMov (xT 5)) (sV (oBin .add .no (xL 0) (ki 1)) (sS 5 (xL 0) sEnd)))))))))
 (kSeq (kReg (sS 4 (xK (bool false)) sEnd))
 kRet))))
theorem t358 : FF d358 Tryz.f358 a358 [(.t 4)] := ff Tryz.func358 (by kernel_rfl)
def x358 : XFn := .go a358 4 pd8 [(.t 4)]
def d359 : FD := ⟨359, 5, [10, 11, 12, 47, 65]⟩
def a359 : CodeF := (kSeq (kReg (sS 5 (ki 0) sEnd))
 (kSeq (kDraw [(.v (oMov (xT 0)), none), (.v (oMov (xT 1)), none), (.v (oMov (xT 0)), none), (.v (oMov (xT 3)), none), (.v (oMov (xT 0)), none), (.v (oMov (xT 3)), none), (.v (oIaddr 2 (xL 1) (xL 0)), none), (.v (oLoadN 2 (xL 0)), none), (.v (oMov (xT 0)), none), (.v (oMov (xT 1)), none), (.v (oIaddr 2 (xL 1) (xL 0)), none), (.v (oLoadN 2 (xL 0)), none), (.v (oIaddr 2 (xL 11) (xL 10)), none), (.h (oStore 2 (xL 0) (xL 5)), none), (.v (oIaddr 2 (xL 11) (xL 10)), none), (.h (oStore 2 (xL 0) (xL 3)), none)] 0 [none, none, none, none, none, none, none, none, none, none] [])
 (kSeq (kReg (sV (oBin .add .no (xT 1) (ki 1)) (sV (oBin .sub .no (xT 2) (ki 1)) (sS 6 (xL 1) (sS 7 (xL 0) sEnd)))))
 (kSeq (kBlock 0 (kLoop (kBlock 1 (kSeq (kBlock 2 (kLoop (kSeq (kSeq (kDraw [(.v (oMov (xT 6)), none), (.v (oMov (xT 7)), none), (.v (oBin .leq .no (xL 1) (xL 0)), none), (.v (oMov (xL 0)), none), (.v (oMov (xT 4)), (some ((xL 0), true))), (.v (oMov (xT 0)), (some ((xL 1), true))), (.v (oMov (xT 1)), (some ((xL 2), true))), (.v (oIaddr 2 (xL 1) (xL 0)), (some ((xL 3), true))), (.v (oLoadN 2 (xL 0)), (some ((xL 4), true))), (.v (oMov (xT 0)), (some ((xL 5), true))), (.v (oMov (xT 6)), (some ((xL 6), true))), (.v (oIaddr 2 (xL 1) (xL 0)), (some ((xL 7), true))), (.v (oLoadN 2 (xL 0)), (some ((xL 8), true))), (.c (cVal (xL 8)) [(xL 4), (xL 0)], (some ((xL 9), true))), (.v (oBin .lss .no (xL 0) (ki 0)), (some ((xL 10), true))), (.v (oUn .not (xL 0)), (some ((xL 11), true))), (.v (oPick (xL 12) (xL 0) (xK (bool false))), none)] 0 [none, none, none, none, none, none, none, none, (some 0), none] [])
 (kCond (xT 8) kSkip
 (kExit 2)))
 (kBlock 3 (kReg (sV (oMov (xT 6)) (sV (oBin .add .no (xL 0) (ki 1)) (sS 6 (xL 0) sEnd))))))))
 (kSeq (kBlock 4 (kLoop (kSeq (kSeq (kDraw [(.v (oMov (xT 6)), none), (.v (oMov (xT 7)), none), (.v (oBin .leq .no (xL 1) (xL 0)), none), (.v (oMov (xL 0)), none), (.v (oMov (xT 4)), (some ((xL 0), true))), (.v (oMov (xT 0)), (some ((xL 1), true))), (.v (oMov (xT 1)), (some ((xL 2), true))), (.v (oIaddr 2 (xL 1) (xL 0)), (some ((xL 3), true))), (.v (oLoadN 2 (xL 0)), (some ((xL 4), true))), (.v (oMov (xT 0)), (some ((xL 5), true))), (.v (oMov (xT 7)), (some ((xL 6), true))), (.v (oIaddr 2 (xL 1) (xL 0)), (some ((xL 7), true))), (.v (oLoadN 2 (xL 0)), (some ((xL 8), true))), (.c (cVal (xL 8)) [(xL 4), (xL 0)], (some ((xL 9), true))), (.v (oBin .lss .no (xL 0) (ki 0)), (some ((xL 10), true))), (.v (oPick (xL 11) (xL 0) (xK (bool false))), none)] 0 [none, none, none, none, none, none, none, none, none, (some 0)] [])
 (kCond (xT 9) kSkip
 (kExit 4)))
 (kBlock 5 (kReg (sV (oMov (xT 7)) (sV (oBin .sub .no (xL 0) (ki 1)) (sS 7 (xL 0) sEnd))))))))
 (kSeq (kRegC (fun k => (sV (oBin .gtr .no (xT 6) (xT 7)) k)) (xL 0) (kExit 0)
 kSkip)
 (kSeq (kDraw [(.v (oMov (xT 0)), none), (.v (oMov (xT 6)), none), (.v (oMov (xT 0)), none), (.v (oMov (xT 7)), none), (.v (oMov (xT 0)), none), (.v (oMov (xT 7)), none), (.v (oIaddr 2 (xL 1) (xL 0)), none), (.v (oLoadN 2 (xL 0)), none), (.v (oMov (xT 0)), none), (.v (oMov (xT 6)), none), (.v (oIaddr 2 (xL 1) (xL 0)), none), (.v (oLoadN 2 (xL 0)), none), (.v (oIaddr 2 (xL 11) (xL 10)), none), (.h (oStore 2 (xL 0) (xL 5)), none), (.v (oIaddr 2 (xL 11) (xL 10)), none), (.h (oStore 2 (xL 0) (xL 3)), none)] 0 [none, none, none, none, none, none, none, none, none, none] [])
 (kSeq (kReg (sV (oMov (xT 6)) (sV (oBin .add .no (xL 0) (ki 1)) (sS 6 (xL 0) sEnd))))
 (kReg (sV (oMov (xT 7)) (sV (oBin .sub .no (xL 0) (ki 1)) (sS 7 (xL 0) sEnd))))))))))))
 (kSeq (kReg (sS 5 (xT 6) sEnd))
 kRet)))))
theorem t359 : FF d359 Tryz.f359 a359 [(.t 5)] := ff Tryz.func359 (by kernel_rfl)
def x359 : XFn := .go a359 5 pd5 [(.t 5)]
def d360 : FD := ⟨360, 5, [10, 11, 12, 13, 47, 66, 120, 139]⟩
def a360 : CodeF := (kSeq (kReg (sS 5 (ki 0) (sS 6 (xK (bool false)) sEnd)))
 (kSeq (kDraw [(.v (oMov (xT 0)), none), (.v (oMov (xT 1)), none), (.v (oMov (xT 0)), none), (.v (oMov (xT 3)), none), (.v (oMov (xT 0)), none), (.v (oMov (xT 3)), none), (.v (oIaddr 2 (xL 1) (xL 0)), none), (.v (oLoadN 2 (xL 0)), none), (.v (oMov (xT 0)), none), (.v (oMov (xT 1)), none), (.v (oIaddr 2 (xL 1) (xL 0)), none), (.v (oLoadN 2 (xL 0)), none), (.v (oIaddr 2 (xL 11) (xL 10)), none), (.h (oStore 2 (xL 0) (xL 5)), none), (.v (oIaddr 2 (xL 11) (xL 10)), none), (.h (oStore 2 (xL 0) (xL 3)), none)] 0 [none, none, none, none, none, none, none, none, none, none, none, none, none] [])
 (kSeq (kReg (sV (oBin .add .no (xT 1) (ki 1)) (sV (oBin .sub .no (xT 2) (ki 1)) (sS 7 (xL 1) (sS 8 (xL 0) sEnd)))))
 (kSeq (kBlock 0 (kLoop (kSeq (kSeq (kDraw [(.v (oMov (xT 7)), none), (.v (oMov (xT 8)), none), (.v (oBin .leq .no (xL 1) (xL 0)), none), (.v (oMov (xL 0)), none), (.v (oMov (xT 4)), (some ((xL 0), true))), (.v (oMov (xT 0)), (some ((xL 1), true))), (.v (oMov (xT 7)), (some ((xL 2), true))), (.v (oIaddr 2 (xL 1) (xL 0)), (some ((xL 3), true))), (.v (oLoadN 2 (xL 0)), (some ((xL 4), true))), (.v (oMov (xT 0)), (some ((xL 5), true))), (.v (oMov (xT 1)), (some ((xL 6), true))), (.v (oIaddr 2 (xL 1) (xL 0)), (some ((xL 7), true))), (.v (oLoadN 2 (xL 0)), (some ((xL 8), true))), (.c (cVal (xL 8)) [(xL 4), (xL 0)], (some ((xL 9), true))), (.v (oBin .lss .no (xL 0) (ki 0)), (some ((xL 10), true))), (.v (oPick (xL 11) (xL 0) (xK (bool false))), none)] 0 [none, none, none, none, none, none, none, none, none, (some 0), none, none, none] [])
 (kCond (xT 9) kSkip
 (kExit 0)))
 (kBlock 1 (kReg (sV (oMov (xT 7)) (sV (oBin .add .no (xL 0) (ki 1)) (sS 7 (xL 0) sEnd))))))))
 (kSeq (kBlock 2 (kLoop (kSeq (kSeq (kDraw [(.v (oMov (xT 7)), none), (.v (oMov (xT 8)), none), (.v (oBin .leq .no (xL 1) (xL 0)), none), (.v (oMov (xL 0)), none), (.v (oMov (xT 4)), (some ((xL 0), true))), (.v (oMov (xT 0)), (some ((xL 1), true))), (.v (oMov (xT 8)), (some ((xL 2), true))), (.v (oIaddr 2 (xL 1) (xL 0)), (some ((xL 3), true))), (.v (oLoadN 2 (xL 0)), (some ((xL 4), true))), (.v (oMov (xT 0)), (some ((xL 5), true))), (.v (oMov (xT 1)), (some ((xL 6), true))), (.v (oIaddr 2 (xL 1) (xL 0)), (some ((xL 7), true))), (.v (oLoadN 2 (xL 0)), (some ((xL 8), true))), (.c (cVal (xL 8)) [(xL 4), (xL 0)], (some ((xL 9), true))), (.v (oBin .lss .no (xL 0) (ki 0)), (some ((xL 10), true))), (.v (oUn .not (xL 0)), (some ((xL 11), true))), (.v (oPick (xL 12) (xL 0) (xK (bool false))), none)] 0 [none, none, none, none, none, none, none, none, none, none, (some 0), none, none] [])
 (kCond (xT 10) kSkip
 (kExit 2)))
 (kBlock 3 (kReg (sV (oMov (xT 8)) (sV (oBin .sub .no (xL 0) (ki 1)) (sS 8 (xL 0) sEnd))))))))
 (kSeq (kRegC (fun k => (sV (oBin .gtr .no (xT 7) (xT 8)) k)) (xL 0) (kSeq (kDraw [(.v (oMov (xT 0)), none), (.v (oMov (xT 8)), none), (.v (oMov (xT 0)), none), (.v (oMov (xT 1)), none), (.v (oMov (xT 0)), none), (.v (oMov (xT 1)), none), (.v (oIaddr 2 (xL 1) (xL 0)), none), (.v (oLoadN 2 (xL 0)), none), (.v (oMov (xT 0)), none), (.v (oMov (xT 8)), none), (.v (oIaddr 2 (xL 1) (xL 0)), none), (.v (oLoadN 2 (xL 0)), none), (.v (oIaddr 2 (xL 11) (xL 10)), none), (.h (oStore 2 (xL 0) (xL 5)), none), (.v (oIaddr 2 (xL 11) (xL 10)), none), (.h (oStore 2 (xL 0) (xL 3)), none)] 0 [none, none, none, none, none, none, none, none, none, none, none, none, none] [])
 (kSeq (kReg (sS 5 (xT 8) (sS 6 (xK (bool true)) sEnd)))
 kRet))
 kSkip)
 (kSeq (kDraw [(.v (oMov (xT 0)), none), (.v (oMov (xT 7)), none), (.v (oMov (xT 0)), none), (.v (oMov (xT 8)), none), (.v (oMov (xT 0)), none), (.v (oMov (xT 8)), none), (.v (oIaddr 2 (xL 1) (xL 0)), none), (.v (oLoadN 2 (xL 0)), none), (.v (oMov (xT 0)), none), (.v (oMov (xT 7)), none), (.v (oIaddr 2 (xL 1) (xL 0)), none), (.v (oLoadN 2 (xL 0)), none), (.v (oIaddr 2 (xL 11) (xL 10)), none), (.h (oStore 2 (xL 0) (xL 5)), none), (.v (oIaddr 2 (xL 11) (xL 10)), none), (.h (oStore 2 (xL 0) (xL 3)), none)] 0 [none, none, none, none, none, none, none, none, none, none, none, none, none] [])
 (kSeq (kReg (sV (oMov (xT 7)) (sV (oBin .add .no (xL 0) (ki 1)) (sS 7 (xL 0) sEnd))))
 (kSeq (kReg (sV (oMov (xT 8)) (sV (oBin .sub .no (xL 0) (ki 1)) (sS 8 (xL 0) sEnd))))
 (kSeq (kBlock 4 (kLoop (kBlock 5 (kSeq (kBlock 6 (kLoop (kSeq (kSeq (kDraw [(.v (oMov (xT 7)), none), (.v (oMov (xT 8)), none), (.v (oBin .leq .no (xL 1) (xL 0)), none), (.v (oMov (xL 0)), none), (.v (oMov (xT 4)), (some ((xL 0), true))), (.v (oMov (xT 0)), (some ((xL 1), true))), (.v (oMov (xT 7)), (some ((xL 2), true))), (.v (oIaddr 2 (xL 1) (xL 0)), (some ((xL 3), true))), (.v (oLoadN 2 (xL 0)), (some ((xL 4), true))), (.v (oMov (xT 0)), (some ((xL 5), true))), (.v (oMov (xT 1)), (some ((xL 6), true))), (.v (oIaddr 2 (xL 1) (xL 0)), (some ((xL 7), true))), (.v (oLoadN 2 (xL 0)), (some ((xL 8), true))), (.c (cVal (xL 8)) [(xL 4), (xL 0)], (some ((xL 9), true))), (.v (oBin .lss .no (xL 0) (ki 0)), (some ((xL 10), true))), (.v (oPick (xL 11) (xL 0) (xK (bool false))), none)] 0 [none, none, none, none, none, none, none, none, none, none, none, (some 0), none] [])
 (kCond (xT 11) kSkip
 (kExit 6)))
 (kBlock 7 (kReg (sV (oMov (xT 7)) (sV (oBin .add .no (xL 0) (ki 1)) (sS 7 (xL 0) sEnd))))))))
 (kSeq (kBlock 8 (kLoop (kSeq (kSeq (kDraw [(.v (oMov (xT 7)), none), (.v (oMov (xT 8)), none), (.v (oBin .leq .no (xL 1) (xL 0)), none), (.v (oMov (xL 0)), none), (.v (oMov (xT 4)), (some ((xL 0), true))), (.v (oMov (xT 0)), (some ((xL 1), true))), (.v (oMov (xT 8)), (some ((xL 2), true))), (.v (oIaddr 2 (xL 1) (xL 0)), (some ((xL 3), true))), (.v (oLoadN 2 (xL 0)), (some ((xL 4), true))), (.v (oMov (xT 0)), (some ((xL 5), true))), (.v (oMov (xT 1)), (some ((xL 6), true))), (.v (oIaddr 2 (xL 1) (xL 0)), (some ((xL 7), true))), (.v (oLoadN 2 (xL 0)), (some ((xL 8), true))), (.c (cVal (xL 8)) [(xL 4), (xL 0)], (some ((xL 9), true))), (.v (oBin .lss .no (xL 0) (ki 0)), (some ((xL 10), true))), (.v (oUn .not (xL 0)), (some ((xL 11), true))), (.v (oPick (xL 12) (xL 0) (xK (bool false))), none)] 0 [none, none, none, none, none, none, none, none, none, none, none, none, (some 0)] [])
 (kCond (xT 12) kSkip
 (kExit 8)))
 (kBlock 9 (kReg (sV (oMov (xT 8)) (sV (oBin .sub .no (xL 0) (ki 1)) (sS 8 (xL 0) sEnd))))))))
 (kSeq (kRegC (fun k => (sV (oBin .gtr .no (xT 7) (xT 8)) k)) (xL 0) (kExit 4)
 kSkip)
 (kSeq (kDraw [(.v (oMov (xT 0)), none), (.v (oMov (xT 7)), none), (.v (oMov (xT 0)), none), (.v (oMov (xT 8)), none), (.v (oMov (xT 0)), none), (.v (oMov (xT 8)), none), (.v (oIaddr 2 (xL 1) (xL 0)), none), (.v (oLoadN 2 (xL 0)), none), (.v (oMov (xT 0)), none), (.v (oMov (xT 7)), none), (.v (oIaddr 2 (xL 1) (xL 0)), none), (.v (oLoadN 2 (xL 0)), none), (.v (oIaddr 2 (xL 11) (xL 10)), none), (.h (oStore 2 (xL 0) (xL 5)), none), (.v (oIaddr 2 (xL 11) (xL 10)), none), (.h (oStore 2 (xL 0) (xL 3)), none)] 0 [none, none, none, none, none, none, none, none, none, none, none, none, none] [])
 (kSeq (kReg (sV (oMov (xT 7)) (sV (oBin .add .no (xL 0) (ki 1)) (sS 7 (xL 0) sEnd))))
 (kReg (sV (oMov (xT 8)) (sV (oBin .sub .no (xL 0) (ki 1)) (sS 8 (xL 0) sEnd))))))))))))
 (kSeq (kDraw [(.v (oMov (xT 0)), none), (.v (oMov (xT 8)), none), (.v (oMov (xT 0)), none), (.v (oMov (xT 1)), none), (.v (oMov (xT 0)), none), (.v (oMov (xT 1)), none), (.v (oIaddr 2 (xL 1) (xL 0)), none), (.v (oLoadN 2 (xL 0)), none), (.v (oMov (xT 0)), none), (.v (oMov (xT 8)), none), (.v (oIaddr 2 (xL 1) (xL 0)), none), (.v (oLoadN 2 (xL 0)), none), (.v (oIaddr 2 (xL 11) (xL 10)), none), (.h (oStore 2 (xL 0) (xL 5)), none), (.v (oIaddr 2 (xL 11) (xL 10)), none), (.h (oStore 2 (xL 0) (xL 3)), none)] 0 [none, none, none, none, none, none, none, none, none, none, none, none, none] [])
 (kSeq (kReg (sS 5 (xT 8) (sS 6 (xK (bool false)) sEnd)))
 kRet))))))))))))
theorem t360 : FF d360 Tryz.f360 a360 [(.t 5), (.t 6)] := ff Tryz.func360 (by kernel_rfl)
def x360 : XFn := .go a360 5 pd8 [(.t 5), (.t 6)]
def d361 : FD := ⟨361, 2, [3, 4, 5]⟩
def a361 : CodeF := (kSeq (kReg (sS 2 (ki 0) sEnd))
 (kBlock 0 (kLoop (kSeq (kRegC (fun k => (sV (oLoad (xT 1)) (sV (oLenS (xL 0)) (sV (oBin .lss .no (xT 2) (xL 0)) k)))) (xL 0) kSkip
 (kExit 0))
 (kBlock 1 (kSeq (kReg (sV (oLoad (xT 1)) (sC (cFn 265) [(xL 0), (xT 2)] (sV (oExt 0 (xL 0)) (sV (oExt 1 (xL 1)) (sS 3 (xL 1) (sS 4 (xL 0) sEnd)))))))
 (kSeq (kRegC (fun k => (sC (cVal (xT 0)) [(xT 2), (xT 3)] (sV (oUn .not (xL 0)) k))) (xL 0) kRet
 kSkip)
 (kReg (sV (oMov (xT 2)) (sV (oBin .add .no (xL 0) (xT 4)) (sS 2 (xL 0) sEnd)))))))))))
theorem t361 : FF d361 Tryz.f361 a361 [] := ff Tryz.func361 (by kernel_rfl)
def x361 : XFn := .go a361 2 pd3 []
def d362 : FD := ⟨362, 2, [4]⟩
def a362 : CodeF := (kSeq (kReg (sS 2 (xK (int .i32 (.ofNat 0))) sEnd))
 (kSeq (kRegC (fun k => (sV (oBin .and .no (xT 0) (xK (int .i32 (.ofNat 1)))) (sV (oBin .eql .no (xL 0) (xT 1)) k))) (xL 0) (kSeq (kReg (sV (oBin .add .no (xT 0) (xK (int .i32 (.ofNat 1)))) (sS 2 (xL 0) sEnd)))
 kRet)
 kSkip)
 (kSeq (kReg (sS 2 (xT 0) sEnd))
 kRet)))
theorem t362 : FF d362 Tryz.f362 a362 [(.t 2)] := ff Tryz.func362 (by kernel_rfl)
def x362 : XFn := .go a362 2 pd1 [(.t 2)]
def d363 : FD := ⟨363, 2, [4]⟩
def a363 : CodeF := (kSeq (kReg (sS 2 (xK nils) sEnd))
 (kSeq (kRegC (fun k => (sV (oConv .u32 (xT 1)) (sV (oBin .leq .no (xL 0) (xK (int .u32 (.ofNat 127)))) k))) (xL 0) (kSeq (kReg (sV (oConv .u8 (xT 1)) (sH (oBsl 5 1 1 [(int .u8 (.ofNat 0))] [(0, 1, (xL 0))]) (sH (oApp 5 1 (xT 0) (xL 0)) (sS 2 (xL 0) sEnd)))))
 kRet)
 kSkip)
 (kSeq (kReg (sC (cFn 382) [(xT 0), (xT 1)] (sS 2 (xL 0) sEnd)))
 kRet)))
theorem t363 : FF d363 Tryz.f363 a363 [(.t 2)] := ff Tryz.func363 (by kernel_rfl)
def x363 : XFn := .go a363 2 pd1 [(.t 2)]
def d364 : FD := ⟨364, 1, [2, 3, 4, 5, 6, 7, 8, 10, 9, 11, 12]⟩
def a364 : CodeF := (kSeq (kReg (sS 1 (xK (int .i32 (.ofNat 0))) (sS 2 (ki 0) sEnd)))
 (kSeq (kReg (sV (oLenS (xT 0)) (sS 3 (xL 0) sEnd)))
 (kSeq (kRegC (fun k => (sV (oBin .lss .no (xT 3) (ki 1)) k)) (xL 0) (kSeq (kReg (sS 1 (xK (int .i32 (.ofNat 65533))) (sS 2 (ki 0) sEnd)))
 kRet)
 kSkip)
 (kSeq (kReg (sV (oIdx (xT 0) (ki 0)) (sS 4 (xL 0) sEnd)))
 (kSeq (kReg (sV (oIaddra 256 1 (xK (ptr 4 0)) (xT 4)) (sV (oLoad (xL 0)) (sS 5 (xL 0) sEnd))))
 (kSeq (kRegC (fun k => (sV (oBin .geq .no (xT 5) (xK (int .u8 (.ofNat 240)))) k)) (xL 0) (kSeq (kReg (sV (oConv .i32 (xT 5)) (sV (oBin .shl .no (xL 0) (xK (int .u64 (.ofNat 31)))) (sV (oBin .shr .no (xL 0) (xK (int .u64 (.ofNat 31)))) (sS 6 (xL 0) sEnd)))))
 (kSeq (kReg (sV (oIdx (xT 0) (ki 0)) (sV (oConv .i32 (xL 0)) (sV (oBin .andNot .no (xL 0) (xT 6)) (sV (oBin .and .no (xK (int .i32 (.ofNat 65533))) (xT 6)) (sV (oBin .or .no (xL 1) (xL 0)) (sS 1 (xL 0) (sS 2 (ki 1) sEnd))))))))
 kRet))
 kSkip)
 (kSeq (kReg (sV (oBin .and .no (xT 5) (xK (int .u8 (.ofNat 7)))) (sV (oConv .i64 (xL 0)) (sS 7 (xL 0) sEnd))))
 (kSeq (kReg (sV (oBin .shr .no (xT 5) (xK (int .u64 (.ofNat 4)))) (sV (oIaddra 16 2 (xK (ptr 5 0)) (xL 0)) (sV (oLoadN 2 (xL 0)) (sH (oAlloc 501 2 [(int .u8 (.ofNat 0)), (int .u8 (.ofNat 0))]) (sS 9 (xL 0) (sH (oStore 2 (xT 9) (xL 1)) sEnd)))))))
 (kSeq (kRegC (fun k => (sV (oBin .lss .no (xT 3) (xT 7)) k)) (xL 0) (kSeq (kReg (sS 1 (xK (int .i32 (.ofNat 65533))) (sS 2 (ki 1) sEnd)))
 kRet)
 kSkip)
 (kSeq (kReg (sV (oIdx (xT 0) (ki 1)) (sS 8 (xL 0) sEnd)))
 (kSeq (kRegC (fun k => (sV (oFaddr 0 (xT 9)) (sV (oLoad (xL 0)) (sV (oBin .lss .no (xT 8) (xL 0)) (sG (xL 0) false (sV (oFaddr 1 (xT 9))) (sG (xL 1) false (sV (oLoad (xL 0))) (sG (xL 2) false (sV (oMov (xT 8))) (sG (xL 3) false (sV (oBin .lss .no (xL 1) (xL 0))) (sV (oPick (xL 4) (xK (bool true)) (xL 0)) k))))))))) (xL 0) (kSeq (kReg (sS 1 (xK (int .i32 (.ofNat 65533))) (sS 2 (ki 1) sEnd)))
 kRet)
 kSkip)
 (kSeq (kRegC (fun k => (sV (oBin .leq .no (xT 7) (ki 2)) k)) (xL 0) (kSeq (kReg (sV (oBin .and .no (xT 4) (xK (int .u8 (.ofNat 31)))) (sV (oConv .i32 (xL 0)) (sV (oBin .shl .no (xL 0) (xK (int .u64 (.ofNat 6)))) (sV (oBin .and .no (xT 8) (xK (int .u8 (.ofNat 63)))) (sV (oConv .i32 (xL 0)) (sV (oBin .or .no (xL 2) (xL 0)) (sS 1 (xL 0) (sS 2 (ki 2) sEnd)))))))))
 kRet)
 kSkip)
 (kSeq (kReg (sV (oIdx (xT 0) (ki 2)) (sS 10 (xL 0) sEnd)))
 (kSeq (kRegC (fun k => (sV (oBin .lss .no (xT 10) (xK (int .u8 (.ofNat 128)))) (sG (xL 0) false (sV (oMov (xT 10))) (sG (xL 1) false (sV (oBin .lss .no (xK (int .u8 (.ofNat 191))) (xL 0))) (sV (oPick (xL 2) (xK (bool true)) (xL 0)) k))))) (xL 0) (kSeq (kReg (sS 1 (xK (int .i32 (.ofNat 65533))) (sS 2 (ki 1) sEnd)))
 kRet)
 kSkip)
 (kSeq (kRegC (fun k => (sV (oBin .leq .no (xT 7) (ki 3)) k)) (xL 0) (kSeq (kReg (sV (oBin .and .no (xT 4) (xK (int .u8 (.ofNat 15)))) (sV (oConv .i32 (xL 0)) (sV (oBin .shl .no (xL 0) (xK (int .u64 (.ofNat 12)))) (sV (oBin .and .no (xT 8) (xK (int .u8 (.ofNat 63)))) (sV (oConv .i32 (xL 0)) (sV (oBin .shl .no (xL 0) (xK (int .u64 (.ofNat 6)))) (sV (oBin .or .no (xL 3) (xL 0)) (sV (oBin .and .no (xT 10) (xK (int .u8 (.ofNat 63)))) (sV (oConv .i32 (xL 0)) (sV (oBin .or .no (xL 2) (xL 0)) (sS 1 (xL 0) (sS 2 (ki 3) sEnd)))))))))))))
 kRet)
 kSkip)
 (kSeq (kReg (sV (oIdx (xT 0) (ki 3)) (sS 11 (xL 0) sEnd)))
 (kSeq (kRegC (fun k => (sV (oBin .lss .no (xT 11) (xK (int .u8 (.ofNat 128)))) (sG (xL 0) false (sV (oMov (xT 11))) (sG (xL 1) false (sV (oBin .lss .no (xK (int .u8 (.ofNat 191))) (xL 0))) (sV (oPick (xL 2) (xK (bool true)) (xL 0)) k))))) (xL 0) (kSeq (kReg (sS 1 (xK (int .i32 (.ofNat 65533))) (sS 2 (ki 1) sEnd)))
 kRet)
 kSkip)
 (kSeq (kReg (sV (oBin .and .no (xT 4) (xK (int .u8 (.ofNat 7)))) (sV (oConv .i32 (xL 0)) (sV (oBin .shl .no (xL 0) (xK (int .u64 (.ofNat 18)))) (sV (oBin .and .no (xT 8) (xK (int .u8 (.ofNat 63)))) (sV (oConv .i32 (xL 0)) (sV (oBin .shl .no (xL 0) (xK (int .u64 (.ofNat 12)))) (sV (oBin .or .no (xL 3) (xL 0)) (sV (oBin .and .no (xT 10) (xK (int .u8 (.ofNat 63)))) (sV (oConv .i32 (xL 0)) (sV (oBin .shl .no (xL 0) (xK (int .u64 (.ofNat 6)))) (sV (oBin .or .no (xL 3) (xL 0)) (sV (oBin .and .no (xT 11) (xK (int .u8 (.ofNat 63)))) (sV (oConv .i32 (xL 0)) (sV (oBin .or .no (xL 2) (xL 0)) (sS 1 (xL 0) (sS 2 (ki 4) sEnd)))))))))))))))))
 kRet))))))))))))))))))
theorem t364 : FF d364 Tryz.f364 a364 [(.t 1), (.t 2)] := ff Tryz.func364 (by kernel_rfl)
def x364 : XFn := .go a364 1 pd11 [(.t 1), (.t 2)]
def d366 : FD := ⟨366, 2, [4]⟩
def a366 : CodeF := (kSeq (kReg (sS 2 (ki 0) sEnd))
 (kSeq (kReg (sC (cFn 383) [(xT 0), (xT 1)] (sS 2 (xL 0) sEnd)))
 kRet))
theorem t366 : FF d366 Tryz.f366 a366 [(.t 2)] := ff Tryz.func366 (by kernel_rfl)
def x366 : XFn := .go a366 2 pd1 [(.t 2)]
def d368 : FD := ⟨368, 1, [2]⟩
def a368 : CodeF := (kSeq (kReg (sS 1 (ki 0) sEnd))
 (kSeq (kReg (sV (oBin .add .no (xT 0) (ki 16)) (sV (oBin .quo .no (xL 0) (ki 8)) (sS 1 (xL 0) sEnd))))
 kRet))
theorem t368 : FF d368 Tryz.f368 a368 [(.t 1)] := ff Tryz.func368 (by kernel_rfl)
def x368 : XFn := .go a368 1 pd1 [(.t 1)]
def d369 : FD := ⟨369, 2, [4, 7, 9, 8, 5, 10, 6]⟩
def a369 : CodeF := (kSeq (kReg (sS 2 (ki 0) sEnd))
 (kSeq (kReg (sC (cFn 384) [(xT 1)] (sV (oExt 0 (xL 0)) (sV (oExt 1 (xL 1)) (sS 6 (xL 1) (sS 8 (xL 0) sEnd))))))
 (kSeq (kReg (sV (oLenS (xT 1)) (sS 3 (xL 0) sEnd)))
 (kSeq (kReg (sS 5 (xK (int .u32 (.ofNat 0))) sEnd))
 (kSeq (kSeq (kReg (sS 4 (ki 0) sEnd))
 (kBlock 0 (kLoop (kSeq (kRegC (fun k => (sV (oBin .lss .no (xT 4) (xT 3)) k)) (xL 0) kSkip
 (kExit 0))
 (kSeq (kBlock 1 (kReg (sV (oMov (xT 5)) (sV (oBin .mul .no (xL 0) (xK (int .u32 (.ofNat 16777619)))) (sV (oIdx (xT 0) (xT 4)) (sV (oConv .u32 (xL 0)) (sV (oBin .add .no (xL 2) (xL 0)) (sS 5 (xL 0) sEnd))))))))
 (kReg (sV (oMov (xT 4)) (sV (oBin .add .no (xL 0) (ki 1)) (sS 4 (xL 0) sEnd)))))))))
 (kSeq (kRegC (fun k => (sV (oBin .eql .no (xT 5) (xT 6)) (sG (xL 0) true (sV (oMov (xT 0))) (sG (xL 1) true (sV (oMov (xT 3))) (sG (xL 2) true (sV (oSlcs (xL 1) none (some (xL 0)))) (sG (xL 3) true (sV (oMov (xT 1))) (sG (xL 4) true (sV (oBin .eql .no (xL 1) (xL 0))) (sV (oPick (xL 5) (xL 0) (xK (bool false))) k)))))))) (xL 0) (kSeq (kReg (sS 2 (ki 0) sEnd))
 kRet)
 kSkip)
 (kSeq (kSeq (kReg (sS 7 (xT 3) sEnd))
 (kBlock 2 (kLoop (kSeq (kRegC (fun k => (sV (oLenS (xT 0)) (sV (oBin .lss .no (xT 7) (xL 0)) k))) (xL 0) kSkip
 (kExit 2))
 (kBlock 3 (kSeq (kReg (sV (oMov (xT 5)) (sV (oBin .mul .no (xL 0) (xK (int .u32 (.ofNat 16777619)))) (sS 5 (xL 0) sEnd))))
 (kSeq (kReg (sV (oMov (xT 5)) (sV (oIdx (xT 0) (xT 7)) (sV (oConv .u32 (xL 0)) (sV (oBin .add .no (xL 2) (xL 0)) (sS 5 (xL 0) sEnd))))))
 (kSeq (kReg (sV (oMov (xT 5)) (sV (oBin .sub .no (xT 7) (xT 3)) (sV (oIdx (xT 0) (xL 0)) (sV (oConv .u32 (xL 0)) (sV (oBin .mul .no (xT 8) (xL 0)) (sV (oBin .sub .no (xL 4) (xL 0)) (sS 5 (xL 0) sEnd))))))))
 (kSeq (kReg (sV (oMov (xT 7)) (sV (oBin .add .no (xL 0) (ki 1)) (sS 7 (xL 0) sEnd))))
 (kRegC (fun k => (sV (oBin .eql .no (xT 5) (xT 6)) (sG (xL 0) true (sV (oMov (xT 0))) (sG (xL 1) true (sV (oMov (xT 7))) (sG (xL 2) true (sV (oMov (xT 3))) (sG (xL 3) true (sV (oBin .sub .no (xL 1) (xL 0))) (sG (xL 4) true (sV (oMov (xT 7))) (sG (xL 5) true (sV (oSlcs (xL 4) (some (xL 1)) (some (xL 0)))) (sG (xL 6) true (sV (oMov (xT 1))) (sG (xL 7) true (sV (oBin .eql .no (xL 1) (xL 0))) (sV (oPick (xL 8) (xL 0) (xK (bool false))) k))))))))))) (xL 0) (kSeq (kReg (sV (oBin .sub .no (xT 7) (xT 3)) (sS 2 (xL 0) sEnd)))
 kRet)
 kSkip))))))))))
 (kSeq (kReg (sS 2 (xK (int .i64 (.negSucc 0))) sEnd))
 kRet))))))))
theorem t369 : FF d369 Tryz.f369 a369 [(.t 2)] := ff Tryz.func369 (by kernel_rfl)
def x369 : XFn := .go a369 2 pd7 [(.t 2)]
def d371 : FD := ⟨371, 1, [2]⟩
def a371 : CodeF := (kSeq (kReg (sS 1 (xK (int .u8 (.ofNat 0))) sEnd))
 (kSeq (kReg (sV (oBin .or .no (xT 0) (xK (int .u8 (.ofNat 32)))) (sS 1 (xL 0) sEnd)))
 kRet))
theorem t371 : FF d371 Tryz.f371 a371 [(.t 1)] := ff Tryz.func371 (by kernel_rfl)
def x371 : XFn := .go a371 1 pd1 [(.t 1)]
def d372 : FD := ⟨372, 1, [2, 4, 5, 3]⟩
def a372 : CodeF := (kSeq (kReg (sS 1 (xK (bool false)) sEnd))
 (kSeq (kReg (sS 4 (xK (int .i32 (.ofNat 94))) sEnd))
 (kSeq (kReg (sS 2 (ki 0) sEnd))
 (kSeq (kRegC (fun k => (sV (oLenS (xT 0)) (sV (oBin .geq .no (xL 0) (ki 1)) (sG (xL 0) true (sV (oMov (xT 0))) (sG (xL 1) true (sV (oIdx (xL 0) (ki 0))) (sG (xL 2) true (sV (oBin .eql .no (xL 0) (xK (int .u8 (.ofNat 45))))) (sG (xL 3) true (sV (oMov (xL 0))) (sG (xL 0) false (sV (oMov (xT 0))) (sG (xL 1) false (sV (oIdx (xL 0) (ki 0))) (sG (xL 2) false (sV (oBin .eql .no (xL 0) (xK (int .u8 (.ofNat 43))))) (sG (xL 7) true (sV (oPick (xL 3) (xK (bool true)) (xL 0))) (sV (oPick (xL 8) (xL 0) (xK (bool false))) k)))))))))))) (xL 0) (kReg (sV (oMov (xT 0)) (sV (oSlcs (xL 0) (some (ki 1)) none) (sS 0 (xL 0) sEnd))))
 kSkip)
 (kSeq (kReg (sS 3 (xK (bool false)) sEnd))
 (kSeq (kRegC (fun k => (sV (oLenS (xT 0)) (sV (oBin .geq .no (xL 0) (ki 2)) (sG (xL 0) true (sV (oMov (xT 0))) (sG (xL 1) true (sV (oIdx (xL 0) (ki 0))) (sG (xL 2) true (sV (oBin .eql .no (xL 0) (xK (int .u8 (.ofNat 48))))) (sV (oPick (xL 3) (xL 0) (xK (bool false))) (sG (xL 0) true (sV (oMov (xT 0))) (sG (xL 1) true (sV (oIdx (xL 0) (ki 1))) (sG (xL 2) true (sC (cFn 371) [(xL 0)]) (sG (xL 3) true (sV (oBin .eql .no (xL 0) (xK (int .u8 (.ofNat 98))))) (sG (xL 4) true (sV (oMov (xL 0))) (sG (xL 0) false (sV (oMov (xT 0))) (sG (xL 1) false (sV (oIdx (xL 0) (ki 1))) (sG (xL 2) false (sC (cFn 371) [(xL 0)]) (sG (xL 3) false (sV (oBin .eql .no (xL 0) (xK (int .u8 (.ofNat 111))))) (sG (xL 9) true (sV (oPick (xL 4) (xK (bool true)) (xL 0))) (sG (xL 10) true (sV (oMov (xL 0))) (sG (xL 0) false (sV (oMov (xT 0))) (sG (xL 1) false (sV (oIdx (xL 0) (ki 1))) (sG (xL 2) false (sC (cFn 371) [(xL 0)]) (sG (xL 3) false (sV (oBin .eql .no (xL 0) (xK (int .u8 (.ofNat 120))))) (sG (xL 15) true (sV (oPick (xL 4) (xK (bool true)) (xL 0))) (sV (oPick (xL 16) (xL 0) (xK (bool false))) k)))))))))))))))))))))))) (xL 0) (kSeq (kReg (sS 2 (ki 2) sEnd))
 (kSeq (kReg (sS 4 (xK (int .i32 (.ofNat 48))) sEnd))
 (kReg (sV (oIdx (xT 0) (ki 1)) (sC (cFn 371) [(xL 0)] (sV (oBin .eql .no (xL 0) (xK (int .u8 (.ofNat 120)))) (sS 3 (xL 0) sEnd)))))))
 kSkip)
 (kSeq (kBlock 0 (kLoop (kSeq (kRegC (fun k => (sV (oLenS (xT 0)) (sV (oBin .lss .no (xT 2) (xL 0)) k))) (xL 0) kSkip
 (kExit 0))
 (kSeq (kBlock 1 (kSeq (kRegC (fun k => (sV (oIdx (xT 0) (xT 2)) (sV (oBin .leq .no (xK (int .u8 (.ofNat 48))) (xL 0)) (sG (xL 0) true (sV (oMov (xT 0))) (sG (xL 1) true (sV (oMov (xT 2))) (sG (xL 2) true (sV (oIdx (xL 1) (xL 0))) (sG (xL 3) true (sV (oBin .leq .no (xL 0) (xK (int .u8 (.ofNat 57))))) (sV (oPick (xL 4) (xL 0) (xK (bool false))) (sG (xL 0) false (sV (oMov (xT 3))) (sG (xL 1) false (sV (oMov (xL 0))) (sG (xL 0) true (sV (oMov (xT 0))) (sG (xL 1) true (sV (oMov (xT 2))) (sG (xL 2) true (sV (oIdx (xL 1) (xL 0))) (sG (xL 3) true (sC (cFn 371) [(xL 0)]) (sG (xL 4) true (sV (oBin .leq .no (xK (int .u8 (.ofNat 97))) (xL 0))) (sG (xL 7) false (sV (oPick (xL 5) (xL 0) (xK (bool false)))) (sG (xL 8) false (sV (oMov (xL 0))) (sG (xL 0) true (sV (oMov (xT 0))) (sG (xL 1) true (sV (oMov (xT 2))) (sG (xL 2) true (sV (oIdx (xL 1) (xL 0))) (sG (xL 3) true (sC (cFn 371) [(xL 0)]) (sG (xL 4) true (sV (oBin .leq .no (xL 0) (xK (int .u8 (.ofNat 102))))) (sG (xL 14) false (sV (oPick (xL 5) (xL 0) (xK (bool false)))) (sV (oPick (xL 15) (xK (bool true)) (xL 0)) k)))))))))))))))))))))))) (xL 0) (kSeq (kReg (sS 4 (xK (int .i32 (.ofNat 48))) sEnd))
 (kExit 1))
 kSkip)
 (kSeq (kRegC (fun k => (sV (oIdx (xT 0) (xT 2)) (sV (oBin .eql .no (xL 0) (xK (int .u8 (.ofNat 95)))) k))) (xL 0) (kSeq (kRegC (fun k => (sV (oBin .neq .no (xT 4) (xK (int .i32 (.ofNat 48)))) k)) (xL 0) (kSeq (kReg (sS 1 (xK (bool false)) sEnd))
 kRet)
 kSkip)
 (kSeq (kReg (sS 4 (xK (int .i32 (.ofNat 95))) sEnd))
 (kExit 1)))
 kSkip)
 (kSeq (kRegC (fun k => (sV (oBin .eql .no (xT 4) (xK (int .i32 (.ofNat 95)))) k)) (xL 0) (kSeq (kReg (sS 1 (xK (bool false)) sEnd))
 kRet)
 kSkip)
 (kReg (sS 4 (xK (int .i32 (.ofNat 33))) sEnd))))))
 (kReg (sV (oMov (xT 2)) (sV (oBin .add .no (xL 0) (ki 1)) (sS 2 (xL 0) sEnd))))))))
 (kSeq (kReg (sV (oBin .neq .no (xT 4) (xK (int .i32 (.ofNat 95)))) (sS 1 (xL 0) sEnd)))
 kRet))))))))
theorem t372 : FF d372 Tryz.f372 a372 [(.t 1)] := ff Tryz.func372 (by kernel_rfl)
def x372 : XFn := .go a372 1 pd4 [(.t 1)]
def d373 : FD := ⟨373, 1, [2, 3]⟩
def a373 : CodeF := (kSeq (kReg (sS 1 (xK (str [])) sEnd))
 (kSeq (kRegC (fun k => (sV (oLenS (xT 0)) (sV (oBin .eql .no (xL 0) (ki 0)) k))) (xL 0) (kSeq (kReg (sS 1 (xK (str [])) sEnd))
 kRet)
 kSkip)
 (kSeq (kReg (sV (oLenS (xT 0)) (sH (oMksl 5 1 [(int .u8 (.ofNat 0))] (xL 0) (xL 0)) (sS 2 (xL 0) sEnd))))
 (kSeq (kReg (sH (oCopys (xT 2) (xT 0)) sEnd))
 (kSeq (kReg (sV (oIaddr 1 (xT 2) (ki 0)) (sV (oLenL (xT 2)) (sH (oUstr 5 (xL 1) (xL 0)) (sS 1 (xL 0) sEnd)))))
 kRet)))))
theorem t373 : FF d373 Tryz.f373 a373 [(.t 1)] := ff Tryz.func373 (by kernel_rfl)
def x373 : XFn := .go a373 1 pd2 [(.t 1)]
def d374 : FD := ⟨374, 1, [2]⟩
def a374 : CodeF := (kSeq (kReg (sS 1 (xK nilif) sEnd))
 (kSeq (kReg (sV (oBuild [(str [])] [(0, 1, (xT 0))]) (sH (oBox 506 1 (xL 0)) (sV (oMkif 504 (xL 0)) (sS 1 (xL 0) sEnd)))))
 kRet))
theorem t374 : FF d374 Tryz.f374 a374 [(.t 1)] := ff Tryz.func374 (by kernel_rfl)
def x374 : XFn := .go a374 1 pd1 [(.t 1)]
def d375 : FD := ⟨375, 1, [2]⟩
def a375 : CodeF := (kSeq (kReg (sS 1 (xK (str [])) sEnd))
 (kSeq (kReg (sC (cFn 385) [(xT 0)] (sS 1 (xL 0) sEnd)))
 kRet))
theorem t375 : FF d375 Tryz.f375 a375 [(.t 1)] := ff Tryz.func375 (by kernel_rfl)
def x375 : XFn := .go a375 1 pd1 [(.t 1)]
def d376 : FD := ⟨376, 4, [8, 9, 18]⟩
def a376 : CodeF := (kSeq (kReg (sS 4 (ki 0) (sS 5 (ki 0) sEnd)))
 (kSeq (kSeq (kDraw [(.v (oMov (xT 0)), none), (.v (oMov (xT 2)), none), (.v (oIaddr 1 (xL 1) (xL 0)), none), (.v (oLoad (xL 0)), none), (.v (oMov (xT 0)), none), (.v (oMov (xT 1)), none), (.v (oIaddr 1 (xL 1) (xL 0)), none), (.v (oLoad (xL 0)), none), (.c (cFn 256) [(xL 4), (xL 0)], none)] 0 [none, none, none, none, none, none, (some 0)] [])
 (kCond (xT 6) (kSeq (kReg (sV (oNilc (xT 3)) (sV (oLoad (xL 0)) (sV (oBin .add .no (xL 0) (ki 1)) (sV (oNilc (xT 3)) (sH (oStore 1 (xL 0) (xL 1)) sEnd))))))
 (kSeq (kReg (sS 4 (xT 2) (sS 5 (xT 1) sEnd)))
 kRet))
 kSkip))
 (kSeq (kReg (sS 4 (xT 1) (sS 5 (xT 2) sEnd)))
 kRet)))
theorem t376 : FF d376 Tryz.f376 a376 [(.t 4), (.t 5)] := ff Tryz.func376 (by kernel_rfl)
def x376 : XFn := .go a376 4 pd3 [(.t 4), (.t 5)]
def d377 : FD := ⟨377, 4, [8, 9, 18]⟩
def a377 : CodeF := (kSeq (kReg (sS 4 (ki 0) (sS 5 (ki 0) sEnd)))
 (kSeq (kSeq (kDraw [(.v (oMov (xT 0)), none), (.v (oMov (xT 2)), none), (.v (oIaddr 1 (xL 1) (xL 0)), none), (.v (oLoad (xL 0)), none), (.v (oMov (xT 0)), none), (.v (oMov (xT 1)), none), (.v (oIaddr 1 (xL 1) (xL 0)), none), (.v (oLoad (xL 0)), none), (.c (cFn 299) [(xL 4), (xL 0)], none)] 0 [none, none, none, none, none, none, (some 0)] [])
 (kCond (xT 6) (kSeq (kReg (sV (oNilc (xT 3)) (sV (oLoad (xL 0)) (sV (oBin .add .no (xL 0) (ki 1)) (sV (oNilc (xT 3)) (sH (oStore 1 (xL 0) (xL 1)) sEnd))))))
 (kSeq (kReg (sS 4 (xT 2) (sS 5 (xT 1) sEnd)))
 kRet))
 kSkip))
 (kSeq (kReg (sS 4 (xT 1) (sS 5 (xT 2) sEnd)))
 kRet)))
theorem t377 : FF d377 Tryz.f377 a377 [(.t 4), (.t 5)] := ff Tryz.func377 (by kernel_rfl)
def x377 : XFn := .go a377 4 pd3 [(.t 4), (.t 5)]
def d378 : FD := ⟨378, 4, [8, 9, 18]⟩
def a378 : CodeF := (kSeq (kReg (sS 4 (ki 0) (sS 5 (ki 0) sEnd)))
 (kSeq (kSeq (kDraw [(.v (oMov (xT 0)), none), (.v (oMov (xT 2)), none), (.v (oIaddr 1 (xL 1) (xL 0)), none), (.v (oLoad (xL 0)), none), (.v (oMov (xT 0)), none), (.v (oMov (xT 1)), none), (.v (oIaddr 1 (xL 1) (xL 0)), none), (.v (oLoad (xL 0)), none), (.c (cFn 308) [(xL 4), (xL 0)], none)] 0 [none, none, none, none, none, none, (some 0)] [])
 (kCond (xT 6) (kSeq (kReg (sV (oNilc (xT 3)) (sV (oLoad (xL 0)) (sV (oBin .add .no (xL 0) (ki 1)) (sV (oNilc (xT 3)) (sH (oStore 1 (xL 0) (xL 1)) sEnd))))))
 (kSeq (kReg (sS 4 (xT 2) (sS 5 (xT 1) sEnd)))
 kRet))
 kSkip))
 (kSeq (kReg (sS 4 (xT 1) (sS 5 (xT 2) sEnd)))
 kRet)))
theorem t378 : FF d378 Tryz.f378 a378 [(.t 4), (.t 5)] := ff Tryz.func378 (by kernel_rfl)
def x378 : XFn := .go a378 4 pd3 [(.t 4), (.t 5)]
def d379 : FD := ⟨379, 5, [10, 11, 40, 58]⟩
def a379 : CodeF := (kSeq (kReg (sS 5 (xT 1) sEnd))
 (kBlock 0 (kLoop (kBlock 1 (kSeq (kReg (sV (oBin .mul .no (ki 2) (xT 5)) (sV (oBin .add .no (xL 0) (ki 1)) (sS 6 (xL 0) sEnd))))
 (kSeq (kRegC (fun k => (sV (oBin .geq .no (xT 6) (xT 2)) k)) (xL 0) (kExit 0)
 kSkip)
 (kSeq (kSeq (kDraw [(.v (oMov (xT 6)), none), (.v (oBin .add .no (xL 0) (ki 1)), none), (.v (oMov (xT 2)), none), (.v (oBin .lss .no (xL 1) (xL 0)), none), (.v (oMov (xL 0)), none), (.v (oMov (xT 4)), (some ((xL 0), true))), (.v (oMov (xT 0)), (some ((xL 1), true))), (.v (oMov (xT 3)), (some ((xL 2), true))), (.v (oMov (xT 6)), (some ((xL 3), true))), (.v (oBin .add .no (xL 1) (xL 0)), (some ((xL 4), true))), (.v (oIaddr 2 (xL 3) (xL 0)), (some ((xL 5), true))), (.v (oLoadN 2 (xL 0)), (some ((xL 6), true))), (.v (oMov (xT 0)), (some ((xL 7), true))), (.v (oMov (xT 3)), (some ((xL 8), true))), (.v (oMov (xT 6)), (some ((xL 9), true))), (.v (oBin .add .no (xL 1) (xL 0)), (some ((xL 10), true))), (.v (oBin .add .no (xL 0) (ki 1)), (some ((xL 11), true))), (.v (oIaddr 2 (xL 4) (xL 0)), (some ((xL 12), true))), (.v (oLoadN 2 (xL 0)), (some ((xL 13), true))), (.c (cVal (xL 13)) [(xL 7), (xL 0)], (some ((xL 14), true))), (.v (oBin .lss .no (xL 0) (ki 0)), (some ((xL 15), true))), (.v (oPick (xL 16) (xL 0) (xK (bool false))), none)] 0 [none, none, none, none, none, none, none, (some 0), none] [])
 (kCond (xT 7) (kReg (sV (oMov (xT 6)) (sV (oBin .add .no (xL 0) (ki 1)) (sS 6 (xL 0) sEnd))))
 kSkip))
 (kSeq (kSeq (kDraw [(.v (oMov (xT 4)), none), (.v (oMov (xT 0)), none), (.v (oMov (xT 3)), none), (.v (oMov (xT 5)), none), (.v (oBin .add .no (xL 1) (xL 0)), none), (.v (oIaddr 2 (xL 3) (xL 0)), none), (.v (oLoadN 2 (xL 0)), none), (.v (oMov (xT 0)), none), (.v (oMov (xT 3)), none), (.v (oMov (xT 6)), none), (.v (oBin .add .no (xL 1) (xL 0)), none), (.v (oIaddr 2 (xL 3) (xL 0)), none), (.v (oLoadN 2 (xL 0)), none), (.c (cVal (xL 12)) [(xL 6), (xL 0)], none), (.v (oBin .lss .no (xL 0) (ki 0)), none), (.v (oUn .not (xL 0)), none)] 0 [none, none, none, none, none, none, none, none, (some 0)] [])
 (kCond (xT 8) kRet
 kSkip))
 (kSeq (kDraw [(.v (oMov (xT 0)), none), (.v (oMov (xT 3)), none), (.v (oMov (xT 5)), none), (.v (oBin .add .no (xL 1) (xL 0)), none), (.v (oMov (xT 0)), none), (.v (oMov (xT 3)), none), (.v (oMov (xT 6)), none), (.v (oBin .add .no (xL 1) (xL 0)), none), (.v (oMov (xT 0)), none), (.v (oMov (xT 3)), none), (.v (oMov (xT 6)), none), (.v (oBin .add .no (xL 1) (xL 0)), none), (.v (oIaddr 2 (xL 3) (xL 0)), none), (.v (oLoadN 2 (xL 0)), none), (.v (oMov (xT 0)), none), (.v (oMov (xT 3)), none), (.v (oMov (xT 5)), none), (.v (oBin .add .no (xL 1) (xL 0)), none), (.v (oIaddr 2 (xL 3) (xL 0)), none), (.v (oLoadN 2 (xL 0)), none), (.v (oIaddr 2 (xL 19) (xL 16)), none), (.h (oStore 2 (xL 0) (xL 7)), none), (.v (oIaddr 2 (xL 17) (xL 14)), none), (.h (oStore 2 (xL 0) (xL 3)), none)] 0 [none, none, none, none, none, none, none, none, none] [])
 (kReg (sS 5 (xT 6) sEnd)))))))))))
theorem t379 : FF d379 Tryz.f379 a379 [] := ff Tryz.func379 (by kernel_rfl)
def x379 : XFn := .go a379 5 pd4 []
def d380 : FD := ⟨380, 4, [8]⟩
def a380 : CodeF := (kSeq (kReg (sS 4 (ki 0) sEnd))
 (kSeq (kReg (sV (oBin .sub .no (xT 1) (ki 1)) (sV (oBin .add .no (xT 1) (ki 1)) (sC (cFn 381) [(xT 0), (xL 1), (xT 1), (xL 0), (xT 2), (xT 3)] (sS 4 (xL 0) sEnd)))))
 kRet))
theorem t380 : FF d380 Tryz.f380 a380 [(.t 4)] := ff Tryz.func380 (by kernel_rfl)
def x380 : XFn := .go a380 4 pd1 [(.t 4)]
def d381 : FD := ⟨381, 6, [12]⟩
def a381 : CodeF := (kSeq (kReg (sS 6 (ki 0) sEnd))
 (kSeq (kReg (sV (oMov (xT 1)) (sV (oMov (xT 2)) (sC (cFn 386) [(xT 0), (xL 1), (xL 0), (xT 4), (xT 5)] (sV (oExt 0 (xL 0)) (sV (oExt 1 (xL 1)) (sS 1 (xL 1) (sS 2 (xL 0) sEnd))))))))
 (kSeq (kReg (sV (oMov (xT 2)) (sV (oMov (xT 3)) (sC (cFn 386) [(xT 0), (xL 1), (xL 0), (xT 4), (xT 5)] (sV (oExt 0 (xL 0)) (sV (oExt 1 (xL 1)) (sS 2 (xL 1) (sS 3 (xL 0) sEnd))))))))
 (kSeq (kReg (sV (oMov (xT 1)) (sV (oMov (xT 2)) (sC (cFn 386) [(xT 0), (xL 1), (xL 0), (xT 4), (xT 5)] (sV (oExt 0 (xL 0)) (sV (oExt 1 (xL 1)) (sS 1 (xL 1) (sS 2 (xL 0) sEnd))))))))
 (kSeq (kReg (sS 6 (xT 2) sEnd))
 kRet)))))
theorem t381 : FF d381 Tryz.f381 a381 [(.t 6)] := ff Tryz.func381 (by kernel_rfl)
def x381 : XFn := .go a381 6 pd1 [(.t 6)]
def d382 : FD := ⟨382, 2, [4, 5, 25]⟩
def a382 : CodeF := (kSeq (kReg (sS 2 (xK nils) sEnd))
 (kSeq (kReg (sV (oConv .u32 (xT 1)) (sS 3 (xL 0) sEnd)))
 (kBlock 0 (kRegC (fun k => (sV (oBin .leq .no (xT 3) (xK (int .u32 (.ofNat 2047)))) k)) (xL 0) (kSeq (kReg (sV (oBin .shr .no (xT 1) (xK (int .u64 (.ofNat 6)))) (sV (oConv .u8 (xL 0)) (sV (oBin .or .no (xK (int .u8 (.ofNat 192))) (xL 0)) (sV (oConv .u8 (xT 1)) (sV (oBin .and .no (xL 0) (xK (int .u8 (.ofNat 63)))) (sV (oBin .or .no (xK (int .u8 (.ofNat 128))) (xL 0)) (sH (oBsl 5 1 2 [(int .u8 (.ofNat 0))] [(0, 1, (xL 3)), (1, 1, (xL 0))]) (sH (oApp 5 1 (xT 0) (xL 0)) (sS 2 (xL 0) sEnd))))))))))
 kRet)
 (kSeq (kRegC (fun k => (sV (oBin .lss .no (xT 3) (xK (int .u32 (.ofNat 55296)))) (sS 4 (xL 0) k))) (xT 4) kSkip
 (kReg (sV (oBin .lss .no (xK (int .u32 (.ofNat 57343))) (xT 3)) (sG (xL 0) true (sV (oMov (xT 3))) (sG (xL 1) true (sV (oBin .leq .no (xL 0) (xK (int .u32 (.ofNat 65535))))) (sV (oPick (xL 2) (xL 0) (xK (bool false))) (sS 4 (xL 0) sEnd)))))))
 (kCond (xT 4) (kSeq (kReg (sV (oBin .shr .no (xT 1) (xK (int .u64 (.ofNat 12)))) (sV (oConv .u8 (xL 0)) (sV (oBin .or .no (xK (int .u8 (.ofNat 224))) (xL 0)) (sV (oBin .shr .no (xT 1) (xK (int .u64 (.ofNat 6)))) (sV (oConv .u8 (xL 0)) (sV (oBin .and .no (xL 0) (xK (int .u8 (.ofNat 63)))) (sV (oBin .or .no (xK (int .u8 (.ofNat 128))) (xL 0)) (sV (oConv .u8 (xT 1)) (sV (oBin .and .no (xL 0) (xK (int .u8 (.ofNat 63)))) (sV (oBin .or .no (xK (int .u8 (.ofNat 128))) (xL 0)) (sH (oBsl 5 1 3 [(int .u8 (.ofNat 0))] [(0, 1, (xL 7)), (1, 1, (xL 3)), (2, 1, (xL 0))]) (sH (oApp 5 1 (xT 0) (xL 0)) (sS 2 (xL 0) sEnd))))))))))))))
 kRet)
 (kRegC (fun k => (sV (oBin .gtr .no (xT 3) (xK (int .u32 (.ofNat 65535)))) (sG (xL 0) true (sV (oMov (xT 3))) (sG (xL 1) true (sV (oBin .leq .no (xL 0) (xK (int .u32 (.ofNat 1114111))))) (sV (oPick (xL 2) (xL 0) (xK (bool false))) k))))) (xL 0) (kSeq (kReg (sV (oBin .shr .no (xT 1) (xK (int .u64 (.ofNat 18)))) (sV (oConv .u8 (xL 0)) (sV (oBin .or .no (xK (int .u8 (.ofNat 240))) (xL 0)) (sV (oBin .shr .no (xT 1) (xK (int .u64 (.ofNat 12)))) (sV (oConv .u8 (xL 0)) (sV (oBin .and .no (xL 0) (xK (int .u8 (.ofNat 63)))) (sV (oBin .or .no (xK (int .u8 (.ofNat 128))) (xL 0)) (sV (oBin .shr .no (xT 1) (xK (int .u64 (.ofNat 6)))) (sV (oConv .u8 (xL 0)) (sV (oBin .and .no (xL 0) (xK (int .u8 (.ofNat 63)))) (sV (oBin .or .no (xK (int .u8 (.ofNat 128))) (xL 0)) (sV (oConv .u8 (xT 1)) (sV (oBin .and .no (xL 0) (xK (int .u8 (.ofNat 63)))) (sV (oBin .or .no (xK (int .u8 (.ofNat 128))) (xL 0)) (sH (oBsl 5 1 4 [(int .u8 (.ofNat 0))] [(0, 1, (xL 11)), (1, 1, (xL 7)), (2, 1, (xL 3)), (3, 1, (xL 0))]) (sH (oApp 5 1 (xT 0) (xL 0)) (sS 2 (xL 0) sEnd))))))))))))))))))
 kRet)
 (kSeq (kReg (sH (oBsl 5 1 3 [(int .u8 (.ofNat 0))] [(0, 1, (xK (int .u8 (.ofNat 239)))), (1, 1, (xK (int .u8 (.ofNat 191)))), (2, 1, (xK (int .u8 (.ofNat 189))))]) (sH (oApp 5 1 (xT 0) (xL 0)) (sS 2 (xL 0) sEnd))))
 kRet))))))))
theorem t382 : FF d382 Tryz.f382 a382 [(.t 2)] := ff Tryz.func382 (by kernel_rfl)
def x382 : XFn := .go a382 2 pd3 [(.t 2)]
def d384 : FD := ⟨384, 1, [2, 3, 5, 4, 8, 7, 6]⟩
def a384 : CodeF := (kSeq (kReg (sS 1 (xK (int .u32 (.ofNat 0))) (sS 2 (xK (int .u32 (.ofNat 0))) sEnd)))
 (kSeq (kReg (sS 4 (xK (int .u32 (.ofNat 0))) sEnd))
 (kSeq (kSeq (kReg (sS 3 (ki 0) sEnd))
 (kBlock 0 (kLoop (kSeq (kRegC (fun k => (sV (oLenS (xT 0)) (sV (oBin .lss .no (xT 3) (xL 0)) k))) (xL 0) kSkip
 (kExit 0))
 (kSeq (kBlock 1 (kReg (sV (oMov (xT 4)) (sV (oBin .mul .no (xL 0) (xK (int .u32 (.ofNat 16777619)))) (sV (oIdx (xT 0) (xT 3)) (sV (oConv .u32 (xL 0)) (sV (oBin .add .no (xL 2) (xL 0)) (sS 4 (xL 0) sEnd))))))))
 (kReg (sV (oMov (xT 3)) (sV (oBin .add .no (xL 0) (ki 1)) (sS 3 (xL 0) sEnd)))))))))
 (kSeq (kReg (sS 7 (xK (int .u32 (.ofNat 1))) (sS 6 (xK (int .u32 (.ofNat 16777619))) sEnd)))
 (kSeq (kSeq (kReg (sV (oLenS (xT 0)) (sS 5 (xL 0) sEnd)))
 (kBlock 2 (kLoop (kSeq (kRegC (fun k => (sV (oBin .gtr .no (xT 5) (ki 0)) k)) (xL 0) kSkip
 (kExit 2))
 (kSeq (kBlock 3 (kSeq (kRegC (fun k => (sV (oBin .and .no (xT 5) (ki 1)) (sV (oBin .neq .no (xL 0) (ki 0)) k))) (xL 0) (kReg (sV (oMov (xT 7)) (sV (oBin .mul .no (xL 0) (xT 6)) (sS 7 (xL 0) sEnd))))
 kSkip)
 (kReg (sV (oMov (xT 6)) (sV (oMov (xT 6)) (sV (oBin .mul .no (xL 1) (xL 0)) (sS 6 (xL 0) sEnd)))))))
 (kReg (sV (oMov (xT 5)) (sV (oBin .shr .no (xL 0) (xK (int .u64 (.ofNat 1)))) (sS 5 (xL 0) sEnd)))))))))
 (kSeq (kReg (sS 1 (xT 4) (sS 2 (xT 7) sEnd)))
 kRet))))))
theorem t384 : FF d384 Tryz.f384 a384 [(.t 1), (.t 2)] := ff Tryz.func384 (by kernel_rfl)
def x384 : XFn := .go a384 1 pd7 [(.t 1), (.t 2)]
def d385 : FD := ⟨385, 1, [2]⟩
def a385 : CodeF := (kSeq (kReg (sS 1 (xK (str [])) sEnd))
 (kSeq (kReg (sC (cFn 387) [(xT 0), (ki 10)] (sS 1 (xL 0) sEnd)))
 kRet))
theorem t385 : FF d385 Tryz.f385 a385 [(.t 1)] := ff Tryz.func385 (by kernel_rfl)
def x385 : XFn := .go a385 1 pd1 [(.t 1)]
def d386 : FD := ⟨386, 5, [10, 11, 22]⟩
def a386 : CodeF := (kSeq (kReg (sS 5 (ki 0) (sS 6 (ki 0) sEnd)))
 (kSeq (kSeq (kDraw [(.v (oMov (xT 4)), none), (.v (oMov (xT 0)), none), (.v (oMov (xT 2)), none), (.v (oIaddr 2 (xL 1) (xL 0)), none), (.v (oLoadN 2 (xL 0)), none), (.v (oMov (xT 0)), none), (.v (oMov (xT 1)), none), (.v (oIaddr 2 (xL 1) (xL 0)), none), (.v (oLoadN 2 (xL 0)), none), (.c (cVal (xL 8)) [(xL 4), (xL 0)], none), (.v (oBin .lss .no (xL 0) (ki 0)), none)] 0 [none, none, none, none, none, none, none, (some 0)] [])
 (kCond (xT 7) (kSeq (kReg (sV (oNilc (xT 3)) (sV (oLoad (xL 0)) (sV (oBin .add .no (xL 0) (ki 1)) (sV (oNilc (xT 3)) (sH (oStore 1 (xL 0) (xL 1)) sEnd))))))
 (kSeq (kReg (sS 5 (xT 2) (sS 6 (xT 1) sEnd)))
 kRet))
 kSkip))
 (kSeq (kReg (sS 5 (xT 1) (sS 6 (xT 2) sEnd)))
 kRet)))
theorem t386 : FF d386 Tryz.f386 a386 [(.t 5), (.t 6)] := ff Tryz.func386 (by kernel_rfl)
def x386 : XFn := .go a386 5 pd3 [(.t 5), (.t 6)]
def d387 : FD := ⟨387, 2, [4, 6, 5, 7, 9]⟩
def a387 : CodeF := (kSeq (kReg (sS 2 (xK (str [])) sEnd))
 (kSeq (kRegC (fun k => (sV (oBin .eql .no (xT 1) (ki 10)) k)) (xL 0) (kSeq (kRegC (fun k => (sV (oBin .leq .no (ki 0) (xT 0)) (sG (xL 0) true (sV (oMov (xT 0))) (sG (xL 1) true (sV (oBin .lss .no (xL 0) (ki 100))) (sV (oPick (xL 2) (xL 0) (xK (bool false))) k))))) (xL 0) (kSeq (kReg (sC (cFn 388) [(xT 0)] (sS 2 (xL 0) sEnd)))
 kRet)
 kSkip)
 (kSeq (kReg (sH (oAlloc 509 24 [(int .u8 (.ofNat 0)), (int .u8 (.ofNat 0)), (int .u8 (.ofNat 0)), (int .u8 (.ofNat 0)), (int .u8 (.ofNat 0)), (int .u8 (.ofNat 0)), (int .u8 (.ofNat 0)), (int .u8 (.ofNat 0)), (int .u8 (.ofNat 0)), (int .u8 (.ofNat 0)), (int .u8 (.ofNat 0)), (int .u8 (.ofNat 0)), (int .u8 (.ofNat 0)), (int .u8 (.ofNat 0)), (int .u8 (.ofNat 0)), (int .u8 (.ofNat 0)), (int .u8 (.ofNat 0)), (int .u8 (.ofNat 0)), (int .u8 (.ofNat 0)), (int .u8 (.ofNat 0)), (int .u8 (.ofNat 0)), (int .u8 (.ofNat 0)), (int .u8 (.ofNat 0)), (int .u8 (.ofNat 0))]) (sS 4 (xL 0) sEnd)))
 (kSeq (kReg (sV (oConv .u64 (xT 0)) (sS 3 (xL 0) sEnd)))
 (kSeq (kRegC (fun k => (sV (oBin .lss .no (xT 0) (ki 0)) k)) (xL 0) (kReg (sV (oMov (xT 3)) (sV (oUn .neg (xL 0)) (sS 3 (xL 0) sEnd))))
 kSkip)
 (kSeq (kReg (sC (cFn 389) [(xT 3)] (sS 5 (xL 0) sEnd)))
 (kSeq (kReg (sV (oBin .add .no (ki 1) (xT 5)) (sV (oSlca 24 1 (xT 4) (some (ki 1)) (some (xL 0)) none) (sC (cFn 390) [(xL 0), (xT 3)] sEnd))))
 (kSeq (kRegC (fun k => (sV (oBin .lss .no (xT 0) (ki 0)) k)) (xL 0) (kSeq (kReg (sV (oIaddra 24 1 (xT 4) (ki 0)) (sH (oStore 1 (xL 0) (xK (int .u8 (.ofNat 45)))) sEnd)))
 (kSeq (kReg (sV (oBin .add .no (ki 1) (xT 5)) (sV (oSlca 24 1 (xT 4) none (some (xL 0)) none) (sV (oB2s (xL 0)) (sS 2 (xL 0) sEnd)))))
 kRet))
 kSkip)
 (kSeq (kReg (sV (oBin .add .no (ki 1) (xT 5)) (sV (oSlca 24 1 (xT 4) (some (ki 1)) (some (xL 0)) none) (sV (oB2s (xL 0)) (sS 2 (xL 0) sEnd)))))
 kRet))))))))
 kSkip)
 (kSeq (kReg (sV (oConv .u64 (xT 0)) (sV (oBin .lss .no (xT 0) (ki 0)) (sC (cFn 391) [(xK nils), (xL 1), (xT 1), (xL 0), (xK (bool false))] (sV (oExt 0 (xL 0)) (sV (oExt 1 (xL 1)) (sS 6 (xL 0) sEnd)))))))
 (kSeq (kReg (sS 2 (xT 6) sEnd))
 kRet))))
theorem t387 : FF d387 Tryz.f387 a387 [(.t 2)] := ff Tryz.func387 (by kernel_rfl)
def x387 : XFn := .go a387 2 pd5 [(.t 2)]
def d388 : FD := ⟨388, 1, [2]⟩
def a388 : CodeF := (kSeq (kReg (sS 1 (xK (str [])) sEnd))
 (kSeq (kRegC (fun k => (sV (oBin .lss .no (xT 0) (ki 10)) k)) (xL 0) (kSeq (kReg (sV (oBin .add .no (xT 0) (ki 1)) (sV (oSlcs (xK (str [48, 49, 50, 51, 52, 53, 54, 55, 56, 57, 97, 98, 99, 100, 101, 102, 103, 104, 105, 106, 107, 108, 109, 110, 111, 112, 113, 114, 115, 116, 117, 118, 119, 120, 121, 122])) (some (xT 0)) (some (xL 0))) (sS 1 (xL 0) sEnd))))
 kRet)
 kSkip)
 (kSeq (kReg (sV (oBin .mul .no (xT 0) (ki 2)) (sV (oBin .mul .no (xT 0) (ki 2)) (sV (oBin .add .no (xL 0) (ki 2)) (sV (oSlcs (xK (str [48, 48, 48, 49, 48, 50, 48, 51, 48, 52, 48, 53, 48, 54, 48, 55, 48, 56, 48, 57, 49, 48, 49, 49, 49, 50, 49, 51, 49, 52, 49, 53, 49, 54, 49, 55, 49, 56, 49, 57, 50, 48, 50, 49, 50, 50, 50, 51, 50, 52, 50, 53, 50, 54, 50, 55, 50, 56, 50, 57, 51, 48, 51, 49, 51, 50, 51, 51, 51, 52, 51, 53, 51, 54, 51, 55, 51, 56, 51, 57, 52, 48, 52, 49, 52, 50, 52, 51, 52, 52, 52, 53, 52, 54, 52, 55, 52, 56, 52, 57, 53, 48, 53, 49, 53, 50, 53, 51, 53, 52, 53, 53, 53, 54, 53, 55, 53, 56, 53, 57, 54, 48, 54, 49, 54, 50, 54, 51, 54, 52, 54, 53, 54, 54, 54, 55, 54, 56, 54, 57, 55, 48, 55, 49, 55, 50, 55, 51, 55, 52, 55, 53, 55, 54, 55, 55, 55, 56, 55, 57, 56, 48, 56, 49, 56, 50, 56, 51, 56, 52, 56, 53, 56, 54, 56, 55, 56, 56, 56, 57, 57, 48, 57, 49, 57, 50, 57, 51, 57, 52, 57, 53, 57, 54, 57, 55, 57, 56, 57, 57])) (some (xL 2)) (some (xL 0))) (sS 1 (xL 0) sEnd))))))
 kRet)))
theorem t388 : FF d388 Tryz.f388 a388 [(.t 1)] := ff Tryz.func388 (by kernel_rfl)
def x388 : XFn := .go a388 1 pd1 [(.t 1)]
def d389 : FD := ⟨389, 1, [2, 3]⟩
def a389 : CodeF := (kSeq (kReg (sS 1 (ki 0) sEnd))
 (kSeq (kReg (sC (cFn 192) [(xT 0)] (sC (cFn 392) [(xL 0)] (sS 2 (xL 0) sEnd))))
 (kSeq (kReg (sV (oIaddra 20 1 (xK (ptr 6 0)) (xT 2)) (sV (oLoad (xL 0)) (sV (oBin .geq .no (xT 0) (xL 0)) (sC (cFn 393) [(xL 0)] (sV (oBin .add .no (xT 2) (xL 0)) (sS 1 (xL 0) sEnd)))))))
 kRet)))
theorem t389 : FF d389 Tryz.f389 a389 [(.t 1)] := ff Tryz.func389 (by kernel_rfl)
def x389 : XFn := .go a389 1 pd2 [(.t 1)]
def d390 : FD := ⟨390, 2, [4, 5, 7, 6, 9, 8, 11, 10, 12, 13, 15, 14, 16]⟩
def a390 : CodeF := (kSeq (kReg (sV (oLenL (xT 0)) (sS 2 (xL 0) sEnd)))
 (kSeq (kBlock 0 (kLoop (kSeq (kRegC (fun k => (sV (oBin .geq .no (xT 2) (ki 8)) k)) (xL 0) kSkip
 (kExit 0))
 (kBlock 1 (kSeq (kReg (sV (oBin .rem .no (xT 1) (xK (int .u64 (.ofNat 100000000)))) (sV (oConv .u32 (xL 0)) (sS 3 (xL 0) sEnd))))
 (kSeq (kReg (sV (oMov (xT 1)) (sV (oBin .quo .no (xL 0) (xK (int .u64 (.ofNat 100000000)))) (sS 1 (xL 0) sEnd))))
 (kSeq (kReg (sV (oBin .quo .no (xT 3) (xK (int .u32 (.ofNat 10000)))) (sV (oBin .rem .no (xT 3) (xK (int .u32 (.ofNat 10000)))) (sS 5 (xL 1) (sS 4 (xL 0) sEnd)))))
 (kSeq (kReg (sV (oBin .quo .no (xT 4) (xK (int .u32 (.ofNat 100)))) (sV (oBin .mul .no (xL 0) (xK (int .u32 (.ofNat 2)))) (sV (oBin .rem .no (xT 4) (xK (int .u32 (.ofNat 100)))) (sV (oBin .mul .no (xL 0) (xK (int .u32 (.ofNat 2)))) (sS 7 (xL 2) (sS 6 (xL 0) sEnd)))))))
 (kSeq (kReg (sV (oBin .quo .no (xT 5) (xK (int .u32 (.ofNat 100)))) (sV (oBin .mul .no (xL 0) (xK (int .u32 (.ofNat 2)))) (sV (oBin .rem .no (xT 5) (xK (int .u32 (.ofNat 100)))) (sV (oBin .mul .no (xL 0) (xK (int .u32 (.ofNat 2)))) (sS 9 (xL 2) (sS 8 (xL 0) sEnd)))))))
 (kSeq (kDraw [(.v (oMov (xT 0)), none), (.v (oMov (xT 2)), none), (.v (oBin .sub .no (xL 0) (ki 1)), none), (.v (oMov (xT 0)), none), (.v (oMov (xT 2)), none), (.v (oBin .sub .no (xL 0) (ki 2)), none), (.v (oMov (xT 6)), none), (.v (oBin .add .no (xL 0) (xK (int .u32 (.ofNat 1)))), none), (.v (oIdx (xK (str [48, 48, 48, 49, 48, 50, 48, 51, 48, 52, 48, 53, 48, 54, 48, 55, 48, 56, 48, 57, 49, 48, 49, 49, 49, 50, 49, 51, 49, 52, 49, 53, 49, 54, 49, 55, 49, 56, 49, 57, 50, 48, 50, 49, 50, 50, 50, 51, 50, 52, 50, 53, 50, 54, 50, 55, 50, 56, 50, 57, 51, 48, 51, 49, 51, 50, 51, 51, 51, 52, 51, 53, 51, 54, 51, 55, 51, 56, 51, 57, 52, 48, 52, 49, 52, 50, 52, 51, 52, 52, 52, 53, 52, 54, 52, 55, 52, 56, 52, 57, 53, 48, 53, 49, 53, 50, 53, 51, 53, 52, 53, 53, 53, 54, 53, 55, 53, 56, 53, 57, 54, 48, 54, 49, 54, 50, 54, 51, 54, 52, 54, 53, 54, 54, 54, 55, 54, 56, 54, 57, 55, 48, 55, 49, 55, 50, 55, 51, 55, 52, 55, 53, 55, 54, 55, 55, 55, 56, 55, 57, 56, 48, 56, 49, 56, 50, 56, 51, 56, 52, 56, 53, 56, 54, 56, 55, 56, 56, 56, 57, 57, 48, 57, 49, 57, 50, 57, 51, 57, 52, 57, 53, 57, 54, 57, 55, 57, 56, 57, 57])) (xL 0)), none), (.v (oMov (xT 6)), none), (.v (oIdx (xK (str [48, 48, 48, 49, 48, 50, 48, 51, 48, 52, 48, 53, 48, 54, 48, 55, 48, 56, 48, 57, 49, 48, 49, 49, 49, 50, 49, 51, 49, 52, 49, 53, 49, 54, 49, 55, 49, 56, 49, 57, 50, 48, 50, 49, 50, 50, 50, 51, 50, 52, 50, 53, 50, 54, 50, 55, 50, 56, 50, 57, 51, 48, 51, 49, 51, 50, 51, 51, 51, 52, 51, 53, 51, 54, 51, 55, 51, 56, 51, 57, 52, 48, 52, 49, 52, 50, 52, 51, 52, 52, 52, 53, 52, 54, 52, 55, 52, 56, 52, 57, 53, 48, 53, 49, 53, 50, 53, 51, 53, 52, 53, 53, 53, 54, 53, 55, 53, 56, 53, 57, 54, 48, 54, 49, 54, 50, 54, 51, 54, 52, 54, 53, 54, 54, 54, 55, 54, 56, 54, 57, 55, 48, 55, 49, 55, 50, 55, 51, 55, 52, 55, 53, 55, 54, 55, 55, 55, 56, 55, 57, 56, 48, 56, 49, 56, 50, 56, 51, 56, 52, 56, 53, 56, 54, 56, 55, 56, 56, 56, 57, 57, 48, 57, 49, 57, 50, 57, 51, 57, 52, 57, 53, 57, 54, 57, 55, 57, 56, 57, 57])) (xL 0)), none), (.v (oIaddr 1 (xL 10) (xL 8)), none), (.h (oStore 1 (xL 0) (xL 3)), none), (.v (oIaddr 1 (xL 9) (xL 7)), none), (.h (oStore 1 (xL 0) (xL 3)), none)] 0 [none, none, none, none, none, none, none, none, none, none, none, none, none, none, none] [])
 (kSeq (kDraw [(.v (oMov (xT 0)), none), (.v (oMov (xT 2)), none), (.v (oBin .sub .no (xL 0) (ki 3)), none), (.v (oMov (xT 0)), none), (.v (oMov (xT 2)), none), (.v (oBin .sub .no (xL 0) (ki 4)), none), (.v (oMov (xT 7)), none), (.v (oBin .add .no (xL 0) (xK (int .u32 (.ofNat 1)))), none), (.v (oIdx (xK (str [48, 48, 48, 49, 48, 50, 48, 51, 48, 52, 48, 53, 48, 54, 48, 55, 48, 56, 48, 57, 49, 48, 49, 49, 49, 50, 49, 51, 49, 52, 49, 53, 49, 54, 49, 55, 49, 56, 49, 57, 50, 48, 50, 49, 50, 50, 50, 51, 50, 52, 50, 53, 50, 54, 50, 55, 50, 56, 50, 57, 51, 48, 51, 49, 51, 50, 51, 51, 51, 52, 51, 53, 51, 54, 51, 55, 51, 56, 51, 57, 52, 48, 52, 49, 52, 50, 52, 51, 52, 52, 52, 53, 52, 54, 52, 55, 52, 56, 52, 57, 53, 48, 53, 49, 53, 50, 53, 51, 53, 52, 53, 53, 53, 54, 53, 55, 53, 56, 53, 57, 54, 48, 54, 49, 54, 50, 54, 51, 54, 52, 54, 53, 54, 54, 54, 55, 54, 56, 54, 57, 55, 48, 55, 49, 55, 50, 55, 51, 55, 52, 55, 53, 55, 54, 55, 55, 55, 56, 55, 57, 56, 48, 56, 49, 56, 50, 56, 51, 56, 52, 56, 53, 56, 54, 56, 55, 56, 56, 56, 57, 57, 48, 57, 49, 57, 50, 57, 51, 57, 52, 57, 53, 57, 54, 57, 55, 57, 56, 57, 57])) (xL 0)), none), (.v (oMov (xT 7)), none), (.v (oIdx (xK (str [48, 48, 48, 49, 48, 50, 48, 51, 48, 52, 48, 53, 48, 54, 48, 55, 48, 56, 48, 57, 49, 48, 49, 49, 49, 50, 49, 51, 49, 52, 49, 53, 49, 54, 49, 55, 49, 56, 49, 57, 50, 48, 50, 49, 50, 50, 50, 51, 50, 52, 50, 53, 50, 54, 50, 55, 50, 56, 50, 57, 51, 48, 51, 49, 51, 50, 51, 51, 51, 52, 51, 53, 51, 54, 51, 55, 51, 56, 51, 57, 52, 48, 52, 49, 52, 50, 52, 51, 52, 52, 52, 53, 52, 54, 52, 55, 52, 56, 52, 57, 53, 48, 53, 49, 53, 50, 53, 51, 53, 52, 53, 53, 53, 54, 53, 55, 53, 56, 53, 57, 54, 48, 54, 49, 54, 50, 54, 51, 54, 52, 54, 53, 54, 54, 54, 55, 54, 56, 54, 57, 55, 48, 55, 49, 55, 50, 55, 51, 55, 52, 55, 53, 55, 54, 55, 55, 55, 56, 55, 57, 56, 48, 56, 49, 56, 50, 56, 51, 56, 52, 56, 53, 56, 54, 56, 55, 56, 56, 56, 57, 57, 48, 57, 49, 57, 50, 57, 51, 57, 52, 57, 53, 57, 54, 57, 55, 57, 56, 57, 57])) (xL 0)), none), (.v (oIaddr 1 (xL 10) (xL 8)), none), (.h (oStore 1 (xL 0) (xL 3)), none), (.v (oIaddr 1 (xL 9) (xL 7)), none), (.h (oStore 1 (xL 0) (xL 3)), none)] 0 [none, none, none, none, none, none, none, none, none, none, none, none, none, none, none] [])
 (kSeq (kDraw [(.v (oMov (xT 0)), none), (.v (oMov (xT 2)), none), (.v (oBin .sub .no (xL 0) (ki 5)), none), (.v (oMov (xT 0)), none), (.v (oMov (xT 2)), none), (.v (oBin .sub .no (xL 0) (ki 6)), none), (.v (oMov (xT 8)), none), (.v (oBin .add .no (xL 0) (xK (int .u32 (.ofNat 1)))), none), (.v (oIdx (xK (str [48, 48, 48, 49, 48, 50, 48, 51, 48, 52, 48, 53, 48, 54, 48, 55, 48, 56, 48, 57, 49, 48, 49, 49, 49, 50, 49, 51, 49, 52, 49, 53, 49, 54, 49, 55, 49, 56, 49, 57, 50, 48, 50, 49, 50, 50, 50, 51, 50, 52, 50, 53, 50, 54, 50, 55, 50, 56, 50, 57, 51, 48, 51, 49, 51, 50, 51, 51, 51, 52, 51, 53, 51, 54, 51, 55, 51, 56, 51, 57, 52, 48, 52, 49, 52, 50, 52, 51, 52, 52, 52, 53, 52, 54, 52, 55, 52, 56, 52, 57, 53, 48, 53, 49, 53, 50, 53, 51, 53, 52, 53, 53, 53, 54, 53, 55, 53, 56, 53, 57, 54, 48, 54, 49, 54, 50, 54, 51, 54, 52, 54, 53, 54, 54, 54, 55, 54, 56, 54, 57, 55, 48, 55, 49, 55, 50, 55, 51, 55, 52, 55, 53, 55, 54, 55, 55, 55, 56, 55, 57, 56, 48, 56, 49, 56, 50, 56, 51, 56, 52, 56, 53, 56, 54, 56, 55, 56, 56, 56, 57, 57, 48, 57, 49, 57, 50, 57, 51, 57, 52, 57, 53, 57, 54, 57, 55, 57, 56, 57, 57])) (xL 0)), none), (.v (oMov (xT 8)), none), (.v (oIdx (xK (str [48, 48, 48, 49, 48, 50, 48, 51, 48, 52, 48, 53, 48, 54, 48, 55, 48, 56, 48, 57, 49, 48, 49, 49, 49, 50, 49, 51, 49, 52, 49, 53, 49, 54, 49, 55, 49, 56, 49, 57, 50, 48, 50, 49, 50, 50, 50, 51, 50, 52, 50, 53, 50, 54, 50, 55, 50, 56, 50, 57, 51, 48, 51, 49, 51, 50, 51, 51, 51, 52, 51, 53, 51, 54, 51, 55, 51, 56, 51, 57, 52, 48, 52, 49, 52, 50, 52, 51, 52, 52, 52, 53, 52, 54, 52, 55, 52, 56, 52, 57, 53, 48, 53, 49, 53, 50, 53, 51, 53, 52, 53, 53, 53, 54, 53, 55, 53, 56, 53, 57, 54, 48, 54, 49, 54, 50, 54, 51, 54, 52, 54, 53, 54, 54, 54, 55, 54, 56, 54, 57, 55, 48, 55, 49, 55, 50, 55, 51, 55, 52, 55, 53, 55, 54, 55, 55, 55, 56, 55, 57, 56, 48, 56, 49, 56, 50, 56, 51, 56, 52, 56, 53, 56, 54, 56, 55, 56, 56, 56, 57, 57, 48, 57, 49, 57, 50, 57, 51, 57, 52, 57, 53, 57, 54, 57, 55, 57, 56, 57, 57])) (xL 0)), none), (.v (oIaddr 1 (xL 10) (xL 8)), none), (.h (oStore 1 (xL 0) (xL 3)), none), (.v (oIaddr 1 (xL 9) (xL 7)), none), (.h (oStore 1 (xL 0) (xL 3)), none)] 0 [none, none, none, none, none, none, none, none, none, none, none, none, none, none, none] [])
 (kSeq (kDraw [(.v (oMov (xT 0)), none), (.v (oMov (xT 2)), none), (.v (oBin .sub .no (xL 0) (ki 7)), none), (.v (oMov (xT 0)), none), (.v (oMov (xT 2)), none), (.v (oBin .sub .no (xL 0) (ki 8)), none), (.v (oMov (xT 9)), none), (.v (oBin .add .no (xL 0) (xK (int .u32 (.ofNat 1)))), none), (.v (oIdx (xK (str [48, 48, 48, 49, 48, 50, 48, 51, 48, 52, 48, 53, 48, 54, 48, 55, 48, 56, 48, 57, 49, 48, 49, 49, 49, 50, 49, 51, 49, 52, 49, 53, 49, 54, 49, 55, 49, 56, 49, 57, 50, 48, 50, 49, 50, 50, 50, 51, 50, 52, 50, 53, 50, 54, 50, 55, 50, 56, 50, 57, 51, 48, 51, 49, 51, 50, 51, 51, 51, 52, 51, 53, 51, 54, 51, 55, 51, 56, 51, 57, 52, 48, 52, 49, 52, 50, 52, 51, 52, 52, 52, 53, 52, 54, 52, 55, 52, 56, 52, 57, 53, 48, 53, 49, 53, 50, 53, 51, 53, 52, 53, 53, 53, 54, 53, 55, 53, 56, 53, 57, 54, 48, 54, 49, 54, 50, 54, 51, 54, 52, 54, 53, 54, 54, 54, 55, 54, 56, 54, 57, 55, 48, 55, 49, 55, 50, 55, 51, 55, 52, 55, 53, 55, 54, 55, 55, 55, 56, 55, 57, 56, 48, 56, 49, 56, 50, 56, 51, 56, 52, 56, 53, 56, 54, 56, 55, 56, 56, 56, 57, 57, 48, 57, 49, 57, 50, 57, 51, 57, 52, 57, 53, 57, 54, 57, 55, 57, 56, 57, 57])) (xL 0)), none), (.v (oMov (xT 9)), none), (.v (oIdx (xK (str [48, 48, 48, 49, 48, 50, 48, 51, 48, 52, 48, 53, 48, 54, 48, 55, 48, 56, 48, 57, 49, 48, 49, 49, 49, 50, 49, 51, 49, 52, 49, 53, 49, 54, 49, 55, 49, 56, 49, 57, 50, 48, 50, 49, 50, 50, 50, 51, 50, 52, 50, 53, 50, 54, 50, 55, 50, 56, 50, 57, 51, 48, 51, 49, 51, 50, 51, 51, 51, 52, 51, 53, 51, 54, 51, 55, 51, 56, 51, 57, 52, 48, 52, 49, 52, 50, 52, 51, 52, 52, 52, 53, 52, 54, 52, 55, 52, 56, 52, 57, 53, 48, 53, 49, 53, 50, 53, 51, 53, 52, 53, 53, 53, 54, 53, 55, 53, 56, 53, 57, 54, 48, 54, 49, 54, 50, 54, 51, 54, 52, 54, 53, 54, 54, 54, 55, 54, 56, 54, 57, 55, 48, 55, 49, 55, 50, 55, 51, 55, 52, 55, 53, 55, 54, 55, 55, 55, 56, 55, 57, 56, 48, 56, 49, 56, 50, 56, 51, 56, 52, 56, 53, 56, 54, 56, 55, 56, 56, 56, 57, 57, 48, 57, 49, 57, 50, 57, 51, 57, 52, 57, 53, 57, 54, 57, 55, 57, 56, 57, 57])) (xL 0)), none), (.v (oIaddr 1 (xL 10) (xL 8)), none), (.h (oStore 1 (xL 0) (xL 3)), none), (.v (oIaddr 1 (xL 9) (xL 7)), none), (.h (oStore 1 (xL 0) (xL 3)), none)] 0 [none, none, none, none, none, none, none, none, none, none, none, none, none, none, none] [])
 (kReg (sV (oMov (xT 2)) (sV (oBin .sub .no (xL 0) (ki 8)) (sS 2 (xL 0) sEnd)))))))))))))))))
 (kSeq (kReg (sV (oConv .u32 (xT 1)) (sS 10 (xL 0) sEnd)))
 (kSeq (kRegC (fun k => (sV (oBin .geq .no (xT 2) (ki 4)) k)) (xL 0) (kSeq (kReg (sV (oBin .rem .no (xT 10) (xK (int .u32 (.ofNat 10000)))) (sS 11 (xL 0) sEnd)))
 (kSeq (kReg (sV (oMov (xT 10)) (sV (oBin .quo .no (xL 0) (xK (int .u32 (.ofNat 10000)))) (sS 10 (xL 0) sEnd))))
 (kSeq (kReg (sV (oBin .quo .no (xT 11) (xK (int .u32 (.ofNat 100)))) (sV (oBin .mul .no (xL 0) (xK (int .u32 (.ofNat 2)))) (sV (oBin .rem .no (xT 11) (xK (int .u32 (.ofNat 100)))) (sV (oBin .mul .no (xL 0) (xK (int .u32 (.ofNat 2)))) (sS 13 (xL 2) (sS 12 (xL 0) sEnd)))))))
 (kSeq (kDraw [(.v (oMov (xT 0)), none), (.v (oMov (xT 2)), none), (.v (oBin .sub .no (xL 0) (ki 1)), none), (.v (oMov (xT 0)), none), (.v (oMov (xT 2)), none), (.v (oBin .sub .no (xL 0) (ki 2)), none), (.v (oMov (xT 12)), none), (.v (oBin .add .no (xL 0) (xK (int .u32 (.ofNat 1)))), none), (.v (oIdx (xK (str [48, 48, 48, 49, 48, 50, 48, 51, 48, 52, 48, 53, 48, 54, 48, 55, 48, 56, 48, 57, 49, 48, 49, 49, 49, 50, 49, 51, 49, 52, 49, 53, 49, 54, 49, 55, 49, 56, 49, 57, 50, 48, 50, 49, 50, 50, 50, 51, 50, 52, 50, 53, 50, 54, 50, 55, 50, 56, 50, 57, 51, 48, 51, 49, 51, 50, 51, 51, 51, 52, 51, 53, 51, 54, 51, 55, 51, 56, 51, 57, 52, 48, 52, 49, 52, 50, 52, 51, 52, 52, 52, 53, 52, 54, 52, 55, 52, 56, 52, 57, 53, 48, 53, 49, 53, 50, 53, 51, 53, 52, 53, 53, 53, 54, 53, 55, 53, 56, 53, 57, 54, 48, 54, 49, 54, 50, 54, 51, 54, 52, 54, 53, 54, 54, 54, 55, 54, 56, 54, 57, 55, 48, 55, 49, 55, 50, 55, 51, 55, 52, 55, 53, 55, 54, 55, 55, 55, 56, 55, 57, 56, 48, 56, 49, 56, 50, 56, 51, 56, 52, 56, 53, 56, 54, 56, 55, 56, 56, 56, 57, 57, 48, 57, 49, 57, 50, 57, 51, 57, 52, 57, 53, 57, 54, 57, 55, 57, 56, 57, 57])) (xL 0)), none), (.v (oMov (xT 12)), none), (.v (oIdx (xK (str [48, 48, 48, 49, 48, 50, 48, 51, 48, 52, 48, 53, 48, 54, 48, 55, 48, 56, 48, 57, 49, 48, 49, 49, 49, 50, 49, 51, 49, 52, 49, 53, 49, 54, 49, 55, 49, 56, 49, 57, 50, 48, 50, 49, 50, 50, 50, 51, 50, 52, 50, 53, 50, 54, 50, 55, 50, 56, 50, 57, 51, 48, 51, 49, 51, 50, 51, 51, 51, 52, 51, 53, 51, 54, 51, 55, 51, 56, 51, 57, 52, 48, 52, 49, 52, 50, 52, 51, 52, 52, 52, 53, 52, 54, 52, 55, 52, 56, 52, 57, 53, 48, 53, 49, 53, 50, 53, 51, 53, 52, 53, 53, 53, 54, 53, 55, 53, 56, 53, 57, 54, 48, 54, 49, 54, 50, 54, 51, 54, 52, 54, 53, 54, 54, 54, 55, 54, 56, 54, 57, 55, 48, 55, 49, 55, 50, 55, 51, 55, 52, 55, 53, 55, 54, 55, 55, 55, 56, 55, 57, 56, 48, 56, 49, 56, 50, 56, 51, 56, 52, 56, 53, 56, 54, 56, 55, 56, 56, 56, 57, 57, 48, 57, 49, 57, 50, 57, 51, 57, 52, 57, 53, 57, 54, 57, 55, 57, 56, 57, 57])) (xL 0)), none), (.v (oIaddr 1 (xL 10) (xL 8)), none), (.h (oStore 1 (xL 0) (xL 3)), none), (.v (oIaddr 1 (xL 9) (xL 7)), none), (.h (oStore 1 (xL 0) (xL 3)), none)] 0 [none, none, none, none, none, none, none, none, none, none, none, none, none, none, none] [])
 (kSeq (kDraw [(.v (oMov (xT 0)), none), (.v (oMov (xT 2)), none), (.v (oBin .sub .no (xL 0) (ki 3)), none), (.v (oMov (xT 0)), none), (.v (oMov (xT 2)), none), (.v (oBin .sub .no (xL 0) (ki 4)), none), (.v (oMov (xT 13)), none), (.v (oBin .add .no (xL 0) (xK (int .u32 (.ofNat 1)))), none), (.v (oIdx (xK (str [48, 48, 48, 49, 48, 50, 48, 51, 48, 52, 48, 53, 48, 54, 48, 55, 48, 56, 48, 57, 49, 48, 49, 49, 49, 50, 49, 51, 49, 52, 49, 53, 49, 54, 49, 55, 49, 56, 49, 57, 50, 48, 50, 49, 50, 50, 50, 51, 50, 52, 50, 53, 50, 54, 50, 55, 50, 56, 50, 57, 51, 48, 51, 49, 51, 50, 51, 51, 51, 52, 51, 53, 51, 54, 51, 55, 51, 56, 51, 57, 52, 48, 52, 49, 52, 50, 52, 51, 52, 52, 52, 53, 52, 54, 52, 55, 52, 56, 52, 57, 53, 48, 53, 49, 53, 50, 53, 51, 53, 52, 53, 53, 53, 54, 53, 55, 53, 56, 53, 57, 54, 48, 54, 49, 54, 50, 54, 51, 54, 52, 54, 53, 54, 54, 54, 55, 54, 56, 54, 57, 55, 48, 55, 49, 55, 50, 55, 51, 55, 52, 55, 53, 55, 54, 55, 55, 55, 56, 55, 57, 56, 48, 56, 49, 56, 50, 56, 51, 56, 52, 56, 53, 56, 54, 56, 55, 56, 56, 56, 57, 57, 48, 57, 49, 57, 50, 57, 51, 57, 52, 57, 53, 57, 54, 57, 55, 57, 56, 57, 57])) (xL 0)), none), (.v (oMov (xT 13)), none), (.v (oIdx (xK (str [48, 48, 48, 49, 48, 50, 48, 51, 48, 52, 48, 53, 48, 54, 48, 55, 48, 56, 48, 57, 49, 48, 49, 49, 49, 50, 49, 51, 49, 52, 49, 53, 49, 54, 49, 55, 49, 56, 49, 57, 50, 48, 50, 49, 50, 50, 50, 51, 50, 52, 50, 53, 50, 54, 50, 55, 50, 56, 50, 57, 51, 48, 51, 49, 51, 50, 51, 51, 51, 52, 51, 53, 51, 54, 51, 55, 51, 56, 51, 57, 52, 48, 52, 49, 52, 50, 52, 51, 52, 52, 52, 53, 52, 54, 52, 55, 52, 56, 52, 57, 53, 48, 53, 49, 53, 50, 53, 51, 53, 52, 53, 53, 53, 54, 53, 55, 53, 56, 53, 57, 54, 48, 54, 49, 54, 50, 54, 51, 54, 52, 54, 53, 54, 54, 54, 55, 54, 56, 54, 57, 55, 48, 55, 49, 55, 50, 55, 51, 55, 52, 55, 53, 55, 54, 55, 55, 55, 56, 55, 57, 56, 48, 56, 49, 56, 50, 56, 51, 56, 52, 56, 53, 56, 54, 56, 55, 56, 56, 56, 57, 57, 48, 57, 49, 57, 50, 57, 51, 57, 52, 57, 53, 57, 54, 57, 55, 57, 56, 57, 57])) (xL 0)), none), (.v (oIaddr 1 (xL 10) (xL 8)), none), (.h (oStore 1 (xL 0) (xL 3)), none), (.v (oIaddr 1 (xL 9) (xL 7)), none), (.h (oStore 1 (xL 0) (xL 3)), none)] 0 [none, none, none, none, none, none, none, none, none, none, none, none, none, none, none] [])
 (kReg (sV (oMov (xT 2)) (sV (oBin .sub .no (xL 0) (ki 4)) (sS 2 (xL 0) sEnd)))))))))
 kSkip)
 (kSeq (kRegC (fun k => (sV (oBin .geq .no (xT 2) (ki 2)) k)) (xL 0) (kSeq (kReg (sV (oBin .rem .no (xT 10) (xK (int .u32 (.ofNat 100)))) (sV (oBin .mul .no (xL 0) (xK (int .u32 (.ofNat 2)))) (sS 14 (xL 0) sEnd))))
 (kSeq (kReg (sV (oMov (xT 10)) (sV (oBin .quo .no (xL 0) (xK (int .u32 (.ofNat 100)))) (sS 10 (xL 0) sEnd))))
 (kSeq (kDraw [(.v (oMov (xT 0)), none), (.v (oMov (xT 2)), none), (.v (oBin .sub .no (xL 0) (ki 1)), none), (.v (oMov (xT 0)), none), (.v (oMov (xT 2)), none), (.v (oBin .sub .no (xL 0) (ki 2)), none), (.v (oMov (xT 14)), none), (.v (oBin .add .no (xL 0) (xK (int .u32 (.ofNat 1)))), none), (.v (oIdx (xK (str [48, 48, 48, 49, 48, 50, 48, 51, 48, 52, 48, 53, 48, 54, 48, 55, 48, 56, 48, 57, 49, 48, 49, 49, 49, 50, 49, 51, 49, 52, 49, 53, 49, 54, 49, 55, 49, 56, 49, 57, 50, 48, 50, 49, 50, 50, 50, 51, 50, 52, 50, 53, 50, 54, 50, 55, 50, 56, 50, 57, 51, 48, 51, 49, 51, 50, 51, 51, 51, 52, 51, 53, 51, 54, 51, 55, 51, 56, 51, 57, 52, 48, 52, 49, 52, 50, 52, 51, 52, 52, 52, 53, 52, 54, 52, 55, 52, 56, 52, 57, 53, 48, 53, 49, 53, 50, 53, 51, 53, 52, 53, 53, 53, 54, 53, 55, 53, 56, 53, 57, 54, 48, 54, 49, 54, 50, 54, 51, 54, 52, 54, 53, 54, 54, 54, 55, 54, 56, 54, 57, 55, 48, 55, 49, 55, 50, 55, 51, 55, 52, 55, 53, 55, 54, 55, 55, 55, 56, 55, 57, 56, 48, 56, 49, 56, 50, 56, 51, 56, 52, 56, 53, 56, 54, 56, 55, 56, 56, 56, 57, 57, 48, 57, 49, 57, 50, 57, 51, 57, 52, 57, 53, 57, 54, 57, 55, 57, 56, 57, 57])) (xL 0)), none), (.v (oMov (xT 14)), none), (.v (oIdx (xK (str [48, 48, 48, 49, 48, 50, 48, 51, 48, 52, 48, 53, 48, 54, 48, 55, 48, 56, 48, 57, 49, 48, 49, 49, 49, 50, 49, 51, 49, 52, 49, 53, 49, 54, 49, 55, 49, 56, 49, 57, 50, 48, 50, 49, 50, 50, 50, 51, 50, 52, 50, 53, 50, 54, 50, 55, 50, 56, 50, 57, 51, 48, 51, 49, 51, 50, 51, 51, 51, 52, 51, 53, 51, 54, 51, 55, 51, 56, 51, 57, 52, 48, 52, 49, 52, 50, 52, 51, 52, 52, 52, 53, 52, 54, 52, 55, 52, 56, 52, 57, 53, 48, 53, 49, 53, 50, 53, 51, 53, 52, 53, 53, 53, 54, 53, 55, 53, 56, 53, 57, 54, 48, 54, 49, 54, 50, 54, 51, 54, 52, 54, 53, 54, 54, 54, 55, 54, 56, 54, 57, 55, 48, 55, 49, 55, 50, 55, 51, 55, 52, 55, 53, 55, 54, 55, 55, 55, 56, 55, 57, 56, 48, 56, 49, 56, 50, 56, 51, 56, 52, 56, 53, 56, 54, 56, 55, 56, 56, 56, 57, 57, 48, 57, 49, 57, 50, 57, 51, 57, 52, 57, 53, 57, 54, 57, 55, 57, 56, 57, 57])) (xL 0)), none), (.v (oIaddr 1 (xL 10) (xL 8)), none), (.h (oStore 1 (xL 0) (xL 3)), none), (.v (oIaddr 1 (xL 9) (xL 7)), none), (.h (oStore 1 (xL 0) (xL 3)), none)] 0 [none, none, none, none, none, none, none, none, none, none, none, none, none, none, none] [])
 (kReg (sV (oMov (xT 2)) (sV (oBin .sub .no (xL 0) (ki 2)) (sS 2 (xL 0) sEnd)))))))
 kSkip)
 (kRegC (fun k => (sV (oBin .gtr .no (xT 2) (ki 0)) k)) (xL 0) (kReg (sV (oBin .add .no (xK (int .u32 (.ofNat 48))) (xT 10)) (sV (oConv .u8 (xL 0)) (sV (oIaddr 1 (xT 0) (ki 0)) (sH (oStore 1 (xL 0) (xL 1)) sEnd)))))
 kSkip))))))
theorem t390 : FF d390 Tryz.f390 a390 [] := ff Tryz.func390 (by kernel_rfl)
def x390 : XFn := .go a390 2 pd13 []
def d391 : FD := ⟨391, 5, [10, 11, 15, 13, 12, 16, 14, 17, 18]⟩
def a391 : CodeF := (kSeq (kReg (sS 5 (xK nils) (sS 6 (xK (str [])) sEnd)))
 (kSeq (kRegC (fun k => (sV (oBin .lss .no (xT 2) (ki 2)) (sG (xL 0) false (sV (oMov (xT 2))) (sG (xL 1) false (sV (oBin .eql .no (xL 0) (ki 10))) (sV (oPick (xL 2) (xK (bool true)) (xL 0)) (sG (xL 0) false (sV (oMov (xT 2))) (sG (xL 1) false (sV (oBin .gtr .no (xL 0) (ki 36))) (sV (oPick (xL 2) (xK (bool true)) (xL 0)) k)))))))) (xL 0) (kReg (sV (oMkif 9 (xK (str [115, 116, 114, 99, 111, 110, 118, 58, 32, 105, 108, 108, 101, 103, 97, 108, 32, 65, 112, 112, 101, 110, 100, 73, 110, 116, 47, 70, 111, 114, 109, 97, 116, 73, 110, 116, 32, 98, 97, 115, 101]))) (sPan (xL 0))))
 kSkip)
 (kSeq (kReg (sH (oAlloc 515 65 [(int .u8 (.ofNat 0)), (int .u8 (.ofNat 0)), (int .u8 (.ofNat 0)), (int .u8 (.ofNat 0)), (int .u8 (.ofNat 0)), (int .u8 (.ofNat 0)), (int .u8 (.ofNat 0)), (int .u8 (.ofNat 0)), (int .u8 (.ofNat 0)), (int .u8 (.ofNat 0)), (int .u8 (.ofNat 0)), (int .u8 (.ofNat 0)), (int .u8 (.ofNat 0)), (int .u8 (.ofNat 0)), (int .u8 (.ofNat 0)), (int .u8 (.ofNat 0)), (int .u8 (.ofNat 0)), (int .u8 (.ofNat 0)), (int .u8 (.ofNat 0)), (int .u8 (.ofNat 0)), (int .u8 (.ofNat 0)), (int .u8 (.ofNat 0)), (int .u8 (.ofNat 0)), (int .u8 (.ofNat 0)), (int .u8 (.ofNat 0)), (int .u8 (.ofNat 0)), (int .u8 (.ofNat 0)), (int .u8 (.ofNat 0)), (int .u8 (.ofNat 0)), (int .u8 (.ofNat 0)), (int .u8 (.ofNat 0)), (int .u8 (.ofNat 0)), (int .u8 (.ofNat 0)), (int .u8 (.ofNat 0)), (int .u8 (.ofNat 0)), (int .u8 (.ofNat 0)), (int .u8 (.ofNat 0)), (int .u8 (.ofNat 0)), (int .u8 (.ofNat 0)), (int .u8 (.ofNat 0)), (int .u8 (.ofNat 0)), (int .u8 (.ofNat 0)), (int .u8 (.ofNat 0)), (int .u8 (.ofNat 0)), (int .u8 (.ofNat 0)), (int .u8 (.ofNat 0)), (int .u8 (.ofNat 0)), (int .u8 (.ofNat 0)), (int .u8 (.ofNat 0)), (int .u8 (.ofNat 0)), (int .u8 (.ofNat 0)), (int .u8 (.ofNat 0)), (int .u8 (.ofNat 0)), (int .u8 (.ofNat 0)), (int .u8 (.ofNat 0)), (int .u8 (.ofNat 0)), (int .u8 (.ofNat 0)), (int .u8 (.ofNat 0)), (int .u8 (.ofNat 0)), (int .u8 (.ofNat 0)), (int .u8 (.ofNat 0)), (int .u8 (.ofNat 0)), (int .u8 (.ofNat 0)), (int .u8 (.ofNat 0)), (int .u8 (.ofNat 0))]) (sS 9 (xL 0) sEnd)))
 (kSeq (kReg (sS 8 (ki 65) sEnd))
 (kSeq (kRegC (fun k => k) (xT 3) (kReg (sV (oMov (xT 1)) (sV (oUn .neg (xL 0)) (sS 1 (xL 0) sEnd))))
 kSkip)
 (kSeq (kRegC (fun k => (sC (cFn 394) [(xT 2)] k)) (xL 0) (kSeq (kReg (sV (oConv .u64 (xT 2)) (sC (cFn 395) [(xL 0)] (sV (oConv .u64 (xL 0)) (sS 11 (xL 0) sEnd)))))
 (kSeq (kReg (sV (oConv .u64 (xT 2)) (sS 7 (xL 0) sEnd)))
 (kSeq (kReg (sV (oConv .u64 (xT 2)) (sV (oBin .sub .no (xL 0) (xK (int .u64 (.ofNat 1)))) (sS 10 (xL 0) sEnd))))
 (kSeq (kBlock 0 (kLoop (kSeq (kRegC (fun k => (sV (oBin .geq .no (xT 1) (xT 7)) k)) (xL 0) kSkip
 (kExit 0))
 (kBlock 1 (kSeq (kReg (sV (oMov (xT 8)) (sV (oBin .sub .no (xL 0) (ki 1)) (sS 8 (xL 0) sEnd))))
 (kSeq (kReg (sV (oBin .and .no (xT 1) (xT 10)) (sV (oIdx (xK (str [48, 49, 50, 51, 52, 53, 54, 55, 56, 57, 97, 98, 99, 100, 101, 102, 103, 104, 105, 106, 107, 108, 109, 110, 111, 112, 113, 114, 115, 116, 117, 118, 119, 120, 121, 122])) (xL 0)) (sV (oIaddra 65 1 (xT 9) (xT 8)) (sH (oStore 1 (xL 0) (xL 1)) sEnd)))))
 (kReg (sV (oMov (xT 1)) (sV (oBin .shr .no (xL 0) (xT 11)) (sS 1 (xL 0) sEnd))))))))))
 (kSeq (kReg (sV (oMov (xT 8)) (sV (oBin .sub .no (xL 0) (ki 1)) (sS 8 (xL 0) sEnd))))
 (kReg (sV (oIdx (xK (str [48, 49, 50, 51, 52, 53, 54, 55, 56, 57, 97, 98, 99, 100, 101, 102, 103, 104, 105, 106, 107, 108, 109, 110, 111, 112, 113, 114, 115, 116, 117, 118, 119, 120, 121, 122])) (xT 1)) (sV (oIaddra 65 1 (xT 9) (xT 8)) (sH (oStore 1 (xL 0) (xL 1)) sEnd)))))))))
 (kSeq (kReg (sV (oConv .u64 (xT 2)) (sS 12 (xL 0) sEnd)))
 (kSeq (kBlock 2 (kLoop (kSeq (kRegC (fun k => (sV (oBin .geq .no (xT 1) (xT 12)) k)) (xL 0) kSkip
 (kExit 2))
 (kBlock 3 (kSeq (kReg (sV (oMov (xT 8)) (sV (oBin .sub .no (xL 0) (ki 1)) (sS 8 (xL 0) sEnd))))
 (kSeq (kReg (sV (oBin .quo .no (xT 1) (xT 12)) (sS 13 (xL 0) sEnd)))
 (kSeq (kReg (sV (oBin .mul .no (xT 13) (xT 12)) (sV (oBin .sub .no (xT 1) (xL 0)) (sV (oIdx (xK (str [48, 49, 50, 51, 52, 53, 54, 55, 56, 57, 97, 98, 99, 100, 101, 102, 103, 104, 105, 106, 107, 108, 109, 110, 111, 112, 113, 114, 115, 116, 117, 118, 119, 120, 121, 122])) (xL 0)) (sV (oIaddra 65 1 (xT 9) (xT 8)) (sH (oStore 1 (xL 0) (xL 1)) sEnd))))))
 (kReg (sS 1 (xT 13) sEnd)))))))))
 (kSeq (kReg (sV (oMov (xT 8)) (sV (oBin .sub .no (xL 0) (ki 1)) (sS 8 (xL 0) sEnd))))
 (kReg (sV (oIdx (xK (str [48, 49, 50, 51, 52, 53, 54, 55, 56, 57, 97, 98, 99, 100, 101, 102, 103, 104, 105, 106, 107, 108, 109, 110, 111, 112, 113, 114, 115, 116, 117, 118, 119, 120, 121, 122])) (xT 1)) (sV (oIaddra 65 1 (xT 9) (xT 8)) (sH (oStore 1 (xL 0) (xL 1)) sEnd))))))))
 (kSeq (kRegC (fun k => k) (xT 3) (kSeq (kReg (sV (oMov (xT 8)) (sV (oBin .sub .no (xL 0) (ki 1)) (sS 8 (xL 0) sEnd))))
 (kReg (sV (oIaddra 65 1 (xT 9) (xT 8)) (sH (oStore 1 (xL 0) (xK (int .u8 (.ofNat 45)))) sEnd))))
 kSkip)
 (kSeq (kRegC (fun k => k) (xT 4) (kSeq (kReg (sV (oSlca 65 1 (xT 9) (some (xT 8)) none none) (sH (oApp 5 1 (xT 0) (xL 0)) (sS 5 (xL 0) sEnd))))
 kRet)
 kSkip)
 (kSeq (kReg (sV (oSlca 65 1 (xT 9) (some (xT 8)) none none) (sV (oB2s (xL 0)) (sS 6 (xL 0) sEnd))))
 kRet)))))))))
theorem t391 : FF d391 Tryz.f391 a391 [(.t 5), (.t 6)] := ff Tryz.func391 (by kernel_rfl)
def x391 : XFn := .go a391 5 pd9 [(.t 5), (.t 6)]
def d392 : FD := ⟨392, 1, [2]⟩
def a392 : CodeF := (kSeq (kReg (sS 1 (ki 0) sEnd))
 (kSeq (kReg (sV (oBin .mul .no (xT 0) (ki 78913)) (sV (oBin .shr .no (xL 0) (xK (int .u64 (.ofNat 18)))) (sS 1 (xL 0) sEnd))))
 kRet))
theorem t392 : FF d392 Tryz.f392 a392 [(.t 1)] := ff Tryz.func392 (by kernel_rfl)
def x392 : XFn := .go a392 1 pd1 [(.t 1)]
def d393 : FD := ⟨393, 1, [2]⟩
def a393 : CodeF := (kSeq (kReg (sS 1 (ki 0) sEnd))
 (kSeq (kRegC (fun k => k) (xT 0) (kSeq (kReg (sS 1 (ki 1) sEnd))
 kRet)
 kSkip)
 (kSeq (kReg (sS 1 (ki 0) sEnd))
 kRet)))
theorem t393 : FF d393 Tryz.f393 a393 [(.t 1)] := ff Tryz.func393 (by kernel_rfl)
def x393 : XFn := .go a393 1 pd1 [(.t 1)]
def d394 : FD := ⟨394, 1, [2]⟩
def a394 : CodeF := (kSeq (kReg (sS 1 (xK (bool false)) sEnd))
 (kSeq (kReg (sV (oBin .sub .no (xT 0) (ki 1)) (sV (oBin .and .no (xT 0) (xL 0)) (sV (oBin .eql .no (xL 0) (ki 0)) (sS 1 (xL 0) sEnd)))))
 kRet))
theorem t394 : FF d394 Tryz.f394 a394 [(.t 1)] := ff Tryz.func394 (by kernel_rfl)
def x394 : XFn := .go a394 1 pd1 [(.t 1)]
def d395 : FD := ⟨395, 1, [2]⟩
def a395 : CodeF := (kSeq (kReg (sS 1 (ki 0) sEnd))
 (kSeq (kCond (xK (bool false)) (kSeq (kReg (sV (oConv .u32 (xT 0)) (sC (cFn 396) [(xL 0)] (sS 1 (xL 0) sEnd))))
 kRet)
 kSkip)
 (kSeq (kReg (sC (cFn 228) [(xT 0)] (sS 1 (xL 0) sEnd)))
 kRet)))
theorem t395 : FF d395 Tryz.f395 a395 [(.t 1)] := ff Tryz.func395 (by kernel_rfl)
def x395 : XFn := .go a395 1 pd1 [(.t 1)]
def d396 : FD := ⟨396, 1, [2]⟩
def a396 : CodeF := (kSeq (kReg (sS 1 (ki 0) sEnd))
 (kSeq (kRegC (fun k => (sV (oBin .eql .no (xT 0) (xK (int .u32 (.ofNat 0)))) k)) (xL 0) (kSeq (kReg (sS 1 (ki 32) sEnd))
 kRet)
 kSkip)
 (kSeq (kReg (sV (oUn .neg (xT 0)) (sV (oBin .and .no (xT 0) (xL 0)) (sV (oBin .mul .no (xL 0) (xK (int .u32 (.ofNat 125613361)))) (sV (oBin .shr .no (xL 0) (xK (int .u64 (.ofNat 27)))) (sV (oIaddra 32 1 (xK (ptr 7 0)) (xL 0)) (sV (oLoad (xL 0)) (sV (oConv .i64 (xL 0)) (sS 1 (xL 0) sEnd)))))))))
 kRet)))
theorem t396 : FF d396 Tryz.f396 a396 [(.t 1)] := ff Tryz.func396 (by kernel_rfl)
def x396 : XFn := .go a396 1 pd1 [(.t 1)]
def d414 : FD := ⟨414, 3, [6]⟩
def a414 : CodeF := (kSeq (kReg (sS 3 (xK (bool false)) sEnd))
 (kSeq (kDraw [(.v (oMov (xT 0)), none), (.v (oMov (xT 1)), none), (.v (oIaddr 3 (xL 1) (xL 0)), none), (.v (oFaddr 0 (xL 0)), none), (.v (oLoad (xL 0)), none), (.v (oIaddr 1 (xL 0) (ki 0)), none), (.v (oLoad (xL 0)), none), (.v (oMov (xT 0)), none), (.v (oMov (xT 2)), none), (.v (oIaddr 3 (xL 1) (xL 0)), none), (.v (oFaddr 0 (xL 0)), none), (.v (oLoad (xL 0)), none), (.v (oIaddr 1 (xL 0) (ki 0)), none), (.v (oLoad (xL 0)), none), (.v (oBin .lss .no (xL 7) (xL 0)), none), (.v (oMov (xL 0)), none)] 0 [none, none, none, (some 0)] [])
 kRet))
theorem t414 : FF d414 Tryz.f414 a414 [(.t 3)] := ff Tryz.func414 (by kernel_rfl)
def x414 : XFn := .go a414 3 pd1 [(.t 3)]
def d415 : FD := ⟨415, 1, [2, 3, 4]⟩
def a415 : CodeF := (kSeq (kReg (sS 1 (xK nilif) sEnd))
 (kSeq (kReg (sV (oNilc (xT 0)) (sV (oFaddr 0 (xL 0)) (sV (oLoad (xL 0)) (sV (oLenL (xL 0)) (sV (oBin .sub .no (xL 0) (ki 1)) (sS 2 (xL 0) sEnd)))))))
 (kSeq (kReg (sV (oNilc (xT 0)) (sV (oFaddr 0 (xL 0)) (sV (oLoad (xL 0)) (sV (oIaddr 3 (xL 0) (xT 2)) (sV (oLoadN 3 (xL 0)) (sH (oAlloc 116 3 [nils, nils, (int .i64 (.ofNat 0))]) (sS 3 (xL 0) (sH (oStore 3 (xT 3) (xL 1)) sEnd)))))))))
 (kSeq (kReg (sV (oNilc (xT 0)) (sV (oFaddr 0 (xL 0)) (sV (oLoad (xL 0)) (sV (oSlc 3 (xL 0) none (some (xT 2)) none) (sV (oNilc (xT 0)) (sV (oFaddr 0 (xL 0)) (sH (oStore 1 (xL 0) (xL 2)) sEnd))))))))
 (kSeq (kReg (sV (oLoadN 3 (xT 3)) (sV (oMkif 116 (xL 0)) (sS 1 (xL 0) sEnd))))
 kRet)))))
theorem t415 : FF d415 Tryz.f415 a415 [(.t 1)] := ff Tryz.func415 (by kernel_rfl)
def x415 : XFn := .go a415 1 pd3 [(.t 1)]
def d416 : FD := ⟨416, 3, []⟩
def a416 : CodeF := (kDraw [(.v (oMov (xT 0)), none), (.v (oMov (xT 1)), none), (.v (oMov (xT 0)), none), (.v (oMov (xT 2)), none), (.v (oMov (xT 0)), none), (.v (oMov (xT 2)), none), (.v (oIaddr 3 (xL 1) (xL 0)), none), (.v (oLoadN 3 (xL 0)), none), (.v (oMov (xT 0)), none), (.v (oMov (xT 1)), none), (.v (oIaddr 3 (xL 1) (xL 0)), none), (.v (oLoadN 3 (xL 0)), none), (.v (oIaddr 3 (xL 11) (xL 10)), none), (.h (oStore 3 (xL 0) (xL 5)), none), (.v (oIaddr 3 (xL 11) (xL 10)), none), (.h (oStore 3 (xL 0) (xL 3)), none)] 0 [none, none, none] [])
theorem t416 : FF d416 Tryz.f416 a416 [] := ff Tryz.func416 (by kernel_rfl)
def x416 : XFn := .go a416 3 pd0 []
def d418 : FD := ⟨418, 1, [2]⟩
def a418 : CodeF := (kSeq (kReg (sS 1 (ki 0) sEnd))
 (kSeq (kRegC (fun k => (sV (oBin .eql .ptr (xT 0) (xK nilptr)) k)) (xL 0) (kSeq (kReg (sS 1 (ki 0) sEnd))
 kRet)
 kSkip)
 (kSeq (kReg (sV (oNilc (xT 0)) (sV (oFaddr 0 (xL 0)) (sC (cFn 251) [(xL 0)] (sS 1 (xL 0) sEnd)))))
 kRet)))
theorem t418 : FF d418 Tryz.f418 a418 [(.t 1)] := ff Tryz.func418 (by kernel_rfl)
def x418 : XFn := .go a418 1 pd1 [(.t 1)]
def d420 : FD := ⟨420, 1, [2]⟩
def a420 : CodeF := (kSeq (kReg (sS 1 (ki 0) sEnd))
 (kSeq (kRegC (fun k => (sV (oBin .eql .ptr (xT 0) (xK nilptr)) k)) (xL 0) (kSeq (kReg (sS 1 (ki 0) sEnd))
 kRet)
 kSkip)
 (kSeq (kReg (sV (oNilc (xT 0)) (sV (oFaddr 1 (xL 0)) (sV (oLoad (xL 0)) (sS 1 (xL 0) sEnd)))))
 kRet)))
theorem t420 : FF d420 Tryz.f420 a420 [(.t 1)] := ff Tryz.func420 (by kernel_rfl)
def x420 : XFn := .go a420 1 pd1 [(.t 1)]
def d421 : FD := ⟨421, 1, [2]⟩
def a421 : CodeF := (kSeq (kReg (sS 1 (ki 0) sEnd))
 (kSeq (kRegC (fun k => (sV (oBin .eql .ptr (xT 0) (xK nilptr)) k)) (xL 0) (kSeq (kReg (sS 1 (ki 0) sEnd))
 kRet)
 kSkip)
 (kSeq (kReg (sV (oNilc (xT 0)) (sV (oFaddr 1 (xL 0)) (sV (oLoad (xL 0)) (sS 1 (xL 0) sEnd)))))
 kRet)))
theorem t421 : FF d421 Tryz.f421 a421 [(.t 1)] := ff Tryz.func421 (by kernel_rfl)
def x421 : XFn := .go a421 1 pd1 [(.t 1)]
end
end Go.Proofs.YtohoankmbhlafabGreatDoor
