import Derived.Test.YthaaihgllpehbaaGreatDoorP
import Derived.Test.YthaaihgllpehbaaGreatDoorProg
import Derived.KernelRfl
/- The functions of the program as the interpreter has them; each is the program's, by the kernel. -/
set_option maxRecDepth 1000000
namespace Go.Proofs.YthaaihgllpehbaaGreatDoor
open Go Go.Ai AVal
noncomputable section
def d40 : FD := ⟨40, 2, [4, 5, 6, 7, 10, 8, 2, 56, 57, 58, 55, 13, 11, 84, 85, 86, 83, 15]⟩
def a40 : CodeF := (kSeq (kReg (sH (oBox 38 1 (xT 0)) (sS 8 (xL 0) (sS 2 (xK nilptr) sEnd))))
 (kSeq (kReg (sC (cFn 71) [(xK (int .u8 (.ofNat 1))), (xT 1)] (sV (oExt 0 (xL 0)) (sV (oExt 1 (xL 1)) (sC (cFn 70) [(xL 1), (xL 0)] (sC (cFn 69) [(xL 0)] (sS 3 (xL 0) sEnd)))))))
 (kSeq (kReg (sC (cVal (xT 3)) [] (sC (cFn 72) [(xL 0)] (sS 4 (xL 0) sEnd))))
 (kSeq (kReg (sC (cFn 73) [(xT 4), (ki 16384)] (sS 5 (xL 0) sEnd)))
 (kSeq (kReg (sC (cFn 76) [(xT 4)] (sC (cFn 75) [(xT 4), (xL 0)] (sC (cFn 74) [(xL 0), (xT 5)] (sV (oExt 0 (xL 0)) (sV (oExt 1 (xL 1)) (sV (oExt 2 (xL 2)) (sS 7 (xL 2) (sS 6 (xL 0) sEnd)))))))))
 (kSeq (kReg (sC (cFn 78) [(xT 4)] (sV (oMm true (xT 6) [(xL 0)]) (sC (cFn 77) [(xT 7), (xL 0)] sEnd))))
 (kSeq (kReg (sV (oLoadN 1 (xT 8)) (sC (cFn 47) [(xL 0)] (sC (cFn 28) [(xT 1)] (sC (cVal (xT 3)) [] (sC (cFn 80) [(xL 0)] (sV (oExt 0 (xL 0)) (sV (oExt 1 (xL 1)) (sC (cFn 79) [(xL 1), (xL 0)] (sV (oBuild [nils, nils, nils, nilptr, nils] [(0, 1, (xL 6)), (1, 1, (xL 5)), (3, 1, (xL 0))]) (sH (oBox 76 5 (xL 0)) (sS 14 (xL 0) sEnd))))))))))))
 (kSeq (kSeq (kReg (sS 12 (xT 7) (sV (oLenL (xT 12)) (sS 9 (xL 0) (sS 10 (ki 0) sEnd)))))
 (kBlock 0 (kLoop (kSeq (kReg (sV (oBin .lss .no (xT 10) (xT 9)) (sS 11 (xL 0) sEnd)))
 (kSeq (kCond (xT 11) kSkip
 (kExit 0))
 (kSeq (kBlock 1 (kSeq (kReg (sV (oIaddr 1 (xT 12) (xT 10)) (sV (oLoad (xL 0)) (sS 13 (xL 0) sEnd))))
 (kReg (sV (oNilc (xT 14)) (sV (oFaddr 2 (xL 0)) (sV (oLoad (xL 0)) (sV (oConv .u64 (xT 13)) (sH (oBsl 41 1 1 [(int .u64 (.ofNat 0))] [(0, 1, (xL 0))]) (sH (oApp 41 1 (xL 2) (xL 0)) (sV (oNilc (xT 14)) (sV (oFaddr 2 (xL 0)) (sH (oStore 1 (xL 0) (xL 2)) sEnd))))))))))))
 (kReg (sV (oBin .add .no (xT 10) (ki 1)) (sS 10 (xL 0) sEnd)))))))))
 (kSeq (kRegC (fun k => (sV (oNilc (xT 14)) (sV (oFaddr 3 (xL 0)) (sV (oLoad (xL 0)) (sC (cFn 55) [(xL 0)] (sV (oBin .neq .no (xL 0) (xT 5)) k)))))) (xL 0) (kReg (sV (oBuild [(int .i64 (.ofNat 0))] [(0, 1, (ki 20))]) (sV (oMkif 127 (xL 0)) (sPan (xL 0)))))
 kSkip)
 (kSeq (kSeq (kReg (sV (oFaddr 0 (xT 8)) (sV (oLoad (xL 0)) (sS 18 (xL 0) (sV (oLenL (xT 18)) (sS 15 (xL 0) (sS 16 (ki 0) sEnd)))))))
 (kBlock 2 (kLoop (kSeq (kReg (sV (oBin .lss .no (xT 16) (xT 15)) (sS 17 (xL 0) sEnd)))
 (kSeq (kCond (xT 17) kSkip
 (kExit 2))
 (kSeq (kBlock 3 (kSeq (kReg (sV (oIaddr 7 (xT 18) (xT 16)) (sV (oLoadN 7 (xL 0)) (sH (oAlloc 67 7 [(str []), (int .i64 (.ofNat 0)), nils, (int .i64 (.ofNat 0)), (int .i64 (.ofNat 0)), (bool false), (bool false)]) (sS 19 (xL 0) (sH (oStore 7 (xT 19) (xL 1)) sEnd))))))
 (kDraw [(.v (oMov (xT 14)), none), (.v (oMov (xT 14)), none), (.v (oNilc (xL 0)), none), (.v (oFaddr 4 (xL 0)), none), (.v (oLoad (xL 0)), none), (.v (oLoadN 7 (xT 19)), none), (.v (oMov (xT 5)), none), (.v (oMov (xT 3)), none), (.c (cFn 81) [(xL 2), (xL 1), (xL 0)], none), (.h (oBsl 181 6 1 [nilptr, nils, nils, nilptr, nilptr, nilptr] [(0, 6, (xL 0))]), none), (.h (oApp 181 6 (xL 5) (xL 0)), none), (.v (oNilc (xL 10)), none), (.v (oFaddr 4 (xL 0)), none), (.h (oStore 1 (xL 0) (xL 2)), none)] 0 [none, none, none, none, none, none, none, none, none, none, none, none, none, none, none, none, none, none, none, none] [(9, 5), (9, 4)])))
 (kReg (sV (oBin .add .no (xT 16) (ki 1)) (sS 16 (xL 0) sEnd)))))))))
 (kSeq (kReg (sS 2 (xT 14) sEnd))
 kRet)))))))))))
theorem t40 : FF d40 Tryz.f40 a40 [(.t 2)] := ff Tryz.func40 (by kernel_rfl)
def x40 : XFn := .go a40 2 pd18 [(.t 2)]
def d41 : FD := ⟨41, 2, [4, 16, 17, 18, 15, 8, 5, 7, 6, 53, 54, 55, 52, 11, 10, 2, 9]⟩
def a41 : CodeF := (kSeq (kReg (sH (oBox 38 1 (xT 0)) (sS 17 (xL 0) (sS 2 (xK nils) sEnd))))
 (kSeq (kReg (sS 8 (xK nils) sEnd))
 (kSeq (kReg (sS 10 (xK nils) sEnd))
 (kSeq (kSeq (kReg (sV (oNilc (xT 1)) (sV (oFaddr 0 (xL 0)) (sV (oLoad (xL 0)) (sS 6 (xL 0) (sV (oLenL (xT 6)) (sS 3 (xL 0) (sS 4 (ki 0) sEnd))))))))
 (kBlock 0 (kLoop (kSeq (kReg (sV (oBin .lss .no (xT 4) (xT 3)) (sS 5 (xL 0) sEnd)))
 (kSeq (kCond (xT 5) kSkip
 (kExit 0))
 (kSeq (kBlock 1 (kSeq (kReg (sV (oIaddr 1 (xT 6) (xT 4)) (sV (oLoad (xL 0)) (sS 9 (xT 4) (sS 7 (xL 0) sEnd)))))
 (kSeq (kReg (sV (oMov (xT 8)) (sV (oConv .i64 (xT 7)) (sH (oBsl 2 1 1 [(int .i64 (.ofNat 0))] [(0, 1, (xL 0))]) (sH (oApp 2 1 (xL 2) (xL 0)) (sS 8 (xL 0) sEnd))))))
 (kReg (sV (oMov (xT 10)) (sV (oNilc (xT 1)) (sV (oFaddr 1 (xL 0)) (sV (oLoad (xL 0)) (sV (oIaddr 1 (xL 0) (xT 9)) (sV (oFaddr 0 (xL 0)) (sV (oLoad (xL 0)) (sH (oBsl 59 1 1 [nils] [(0, 1, (xL 0))]) (sH (oApp 59 1 (xL 7) (xL 0)) (sS 10 (xL 0) sEnd))))))))))))))
 (kReg (sV (oBin .add .no (xT 4) (ki 1)) (sS 4 (xL 0) sEnd)))))))))
 (kSeq (kReg (sV (oLenL (xT 8)) (sV (oConv .u64 (xL 0)) (sC (cFn 82) [(xK nils), (xL 0)] (sC (cFn 83) [(xT 8)] (sH (oApp 5 1 (xL 1) (xL 0)) (sC (cFn 84) [(xT 10)] (sH (oBsl 48 1 2 [nils] [(0, 1, (xL 1)), (1, 1, (xL 0))]) (sS 18 (xL 0) sEnd)))))))))
 (kSeq (kSeq (kReg (sV (oNilc (xT 1)) (sV (oFaddr 2 (xL 0)) (sV (oLoad (xL 0)) (sS 14 (xL 0) (sV (oLenL (xT 14)) (sS 11 (xL 0) (sS 12 (ki 0) sEnd))))))))
 (kBlock 2 (kLoop (kSeq (kReg (sV (oBin .lss .no (xT 12) (xT 11)) (sS 13 (xL 0) sEnd)))
 (kSeq (kCond (xT 13) kSkip
 (kExit 2))
 (kSeq (kBlock 3 (kSeq (kReg (sV (oIaddr 6 (xT 14) (xT 12)) (sV (oLoadN 6 (xL 0)) (sH (oAlloc 142 6 [nils, nils, nils, nils, nils, nils]) (sS 15 (xL 0) (sS 16 (xT 12) (sH (oStore 6 (xT 15) (xL 1)) sEnd)))))))
 (kDraw [(.v (oMov (xT 18)), none), (.v (oFaddr 0 (xT 17)), none), (.v (oLoad (xL 0)), none), (.v (oMov (xT 16)), none), (.v (oIaddr 7 (xL 1) (xL 0)), none), (.v (oLoadN 7 (xL 0)), none), (.v (oLoadN 6 (xT 15)), none), (.c (cFn 85) [(xL 1), (xL 0)], none), (.h (oApp 48 1 (xL 7) (xL 0)), none), (.v (oMov (xL 0)), none)] 0 [none, none, none, none, none, none, none, none, none, none, none, none, none, none, none, none, none, none, (some 0)] [])))
 (kReg (sV (oBin .add .no (xT 12) (ki 1)) (sS 12 (xL 0) sEnd)))))))))
 (kSeq (kReg (sC (cFn 87) [(xK (int .u8 (.ofNat 1))), (xT 18)] (sV (oExt 0 (xL 0)) (sV (oExt 1 (xL 1)) (sC (cFn 86) [(xL 1), (xL 0)] (sS 2 (xL 0) sEnd))))))
 kRet)))))))
theorem t41 : FF d41 Tryz.f41 a41 [(.t 2)] := ff Tryz.func41 (by kernel_rfl)
def x41 : XFn := .go a41 2 pd17 [(.t 2)]
def d42 : FD := ⟨42, 2, [4, 5, 3, 2, 6]⟩
def a42 : CodeF := (kSeq (kReg (sH (oBox 38 1 (xT 0)) (sS 5 (xL 0) (sH (oBox 9 1 (xT 1)) (sS 4 (xL 0) (sS 2 (ki 0) (sS 3 (xK (bool false)) sEnd)))))))
 (kSeq (kReg (sV (oFaddr 0 (xT 5)) (sV (oLoad (xL 0)) (sV (oMkfn 89 [] [(xT 4)]) (sC (cFn 88) [(xL 1), (xL 0)] (sS 6 (xL 0) sEnd))))))
 (kSeq (kReg (sV (oMm true (ki 0) [(xT 6)]) (sV (oBin .geq .no (xT 6) (ki 0)) (sS 2 (xL 1) (sS 3 (xL 0) sEnd)))))
 kRet)))
theorem t42 : FF d42 Tryz.f42 a42 [(.t 2), (.t 3)] := ff Tryz.func42 (by kernel_rfl)
def x42 : XFn := .go a42 2 pd5 [(.t 2), (.t 3)]
def d43 : FD := ⟨43, 1, [2, 1, 39, 46]⟩
def a43 : CodeF := (kSeq (kReg (sH (oBox 67 7 (xT 0)) (sS 2 (xL 0) (sS 1 (xK (bool false)) sEnd))))
 (kSeq (kRegC (fun k => (sV (oFaddr 0 (xT 2)) (sV (oLoad (xL 0)) (sC (cFn 90) [(xL 0)] (sV (oUn .not (xL 0)) (sG (xL 0) false (sV (oFaddr 1 (xT 2))) (sG (xL 1) false (sV (oLoad (xL 0))) (sG (xL 2) false (sV (oBin .neq .no (xL 0) (ki 1))) (sG (xL 3) false (sV (oMov (xL 0))) (sG (xL 0) true (sV (oFaddr 2 (xT 2))) (sG (xL 1) true (sV (oLoad (xL 0))) (sG (xL 2) true (sV (oLenL (xL 0))) (sG (xL 3) true (sV (oBin .gtr .no (xL 0) (ki 0))) (sG (xL 8) false (sV (oPick (xL 4) (xL 0) (xK (bool false)))) (sV (oPick (xL 9) (xK (bool true)) (xL 0)) (sG (xL 0) false (sV (oFaddr 1 (xT 2))) (sG (xL 1) false (sV (oLoad (xL 0))) (sG (xL 2) false (sV (oBin .neq .no (xL 0) (ki 4))) (sG (xL 3) false (sV (oMov (xL 0))) (sG (xL 0) true (sV (oFaddr 3 (xT 2))) (sG (xL 1) true (sV (oLoad (xL 0))) (sG (xL 2) true (sV (oBin .neq .no (xL 0) (ki 0))) (sG (xL 7) false (sV (oPick (xL 3) (xL 0) (xK (bool false)))) (sV (oPick (xL 8) (xK (bool true)) (xL 0)) (sG (xL 0) false (sV (oFaddr 1 (xT 2))) (sG (xL 1) false (sV (oLoad (xL 0))) (sG (xL 2) false (sV (oBin .neq .no (xL 0) (ki 5))) (sG (xL 3) false (sV (oMov (xL 0))) (sG (xL 0) true (sV (oFaddr 4 (xT 2))) (sG (xL 1) true (sV (oLoad (xL 0))) (sG (xL 2) true (sV (oBin .neq .no (xL 0) (ki 0))) (sG (xL 7) false (sV (oPick (xL 3) (xL 0) (xK (bool false)))) (sV (oPick (xL 8) (xK (bool true)) (xL 0)) k))))))))))))))))))))))))))))))))) (xL 0) (kSeq (kReg (sS 1 (xK (bool false)) sEnd))
 kRet)
 kSkip)
 (kSeq (kSeq (kReg (sV (oFaddr 1 (xT 2)) (sV (oLoad (xL 0)) (sS 3 (xL 0) sEnd))))
 (kBlock 0 (kRegC (fun k => (sV (oBin .eql .no (xT 3) (ki 1)) k)) (xL 0) (kSeq (kReg (sV (oFaddr 2 (xT 2)) (sV (oLoad (xL 0)) (sC (cFn 91) [(xL 0)] (sV (oBin .eql .no (xL 0) (ki 0)) (sS 1 (xL 0) sEnd))))))
 kRet)
 (kSeq (kRegC (fun k => (sV (oBin .eql .no (xT 3) (ki 2)) (sS 4 (xL 0) k))) (xT 4) kSkip
 (kReg (sV (oBin .eql .no (xT 3) (ki 3)) (sS 4 (xL 0) sEnd))))
 (kCond (xT 4) (kSeq (kReg (sS 1 (xK (bool true)) sEnd))
 kRet)
 (kRegC (fun k => (sV (oBin .eql .no (xT 3) (ki 4)) k)) (xL 0) (kSeq (kReg (sV (oFaddr 3 (xT 2)) (sV (oLoad (xL 0)) (sV (oBin .geq .no (xL 0) (ki 0)) (sG (xL 0) true (sV (oFaddr 3 (xT 2))) (sG (xL 1) true (sV (oLoad (xL 0))) (sG (xL 2) true (sV (oBin .leq .no (xL 0) (ki 9))) (sV (oPick (xL 3) (xL 0) (xK (bool false))) (sS 1 (xL 0) sEnd)))))))))
 kRet)
 (kRegC (fun k => (sV (oBin .eql .no (xT 3) (ki 5)) k)) (xL 0) (kSeq (kReg (sV (oFaddr 4 (xT 2)) (sV (oLoad (xL 0)) (sV (oBin .geq .no (xL 0) (ki 1)) (sG (xL 0) true (sV (oFaddr 4 (xT 2))) (sG (xL 1) true (sV (oLoad (xL 0))) (sG (xL 2) true (sV (oBin .leq .no (xL 0) (ki 4))) (sV (oPick (xL 3) (xL 0) (xK (bool false))) (sS 1 (xL 0) sEnd)))))))))
 kRet)
 kSkip)))))))
 (kSeq (kReg (sS 1 (xK (bool false)) sEnd))
 kRet))))
theorem t43 : FF d43 Tryz.f43 a43 [(.t 1)] := ff Tryz.func43 (by kernel_rfl)
def x43 : XFn := .go a43 1 pd4 [(.t 1)]
def d44 : FD := ⟨44, 3, [6, 16, 17, 18, 15, 7, 9, 8]⟩
def a44 : CodeF := (kSeq (kReg (sS 3 (xK (bool false)) sEnd))
 (kSeq (kRegC (fun k => (sV (oLenL (xT 0)) (sV (oLenL (xT 1)) (sV (oBin .neq .no (xL 1) (xL 0)) k)))) (xL 0) (kSeq (kReg (sS 3 (xK (bool false)) sEnd))
 kRet)
 kSkip)
 (kSeq (kSeq (kReg (sS 7 (xT 0) (sV (oLenL (xT 7)) (sS 4 (xL 0) (sS 5 (ki 0) sEnd)))))
 (kBlock 0 (kLoop (kSeq (kReg (sV (oBin .lss .no (xT 5) (xT 4)) (sS 6 (xL 0) sEnd)))
 (kSeq (kCond (xT 6) kSkip
 (kExit 0))
 (kSeq (kBlock 1 (kSeq (kReg (sV (oIaddr 7 (xT 7) (xT 5)) (sV (oLoadN 7 (xL 0)) (sH (oAlloc 67 7 [(str []), (int .i64 (.ofNat 0)), nils, (int .i64 (.ofNat 0)), (int .i64 (.ofNat 0)), (bool false), (bool false)]) (sS 10 (xL 0) (sS 8 (xT 5) (sH (oStore 7 (xT 10) (xL 1)) sEnd)))))))
 (kSeq (kReg (sV (oIaddr 7 (xT 1) (xT 8)) (sV (oLoadN 7 (xL 0)) (sH (oAlloc 67 7 [(str []), (int .i64 (.ofNat 0)), nils, (int .i64 (.ofNat 0)), (int .i64 (.ofNat 0)), (bool false), (bool false)]) (sS 9 (xL 0) (sH (oStore 7 (xT 9) (xL 1)) sEnd))))))
 (kRegC (fun k => (sV (oLoadN 7 (xT 10)) (sV (oLoadN 7 (xT 9)) (sC (cVal (xT 2)) [(xL 1), (xL 0)] (sV (oUn .not (xL 0)) k))))) (xL 0) (kSeq (kReg (sS 3 (xK (bool false)) sEnd))
 kRet)
 kSkip))))
 (kReg (sV (oBin .add .no (xT 5) (ki 1)) (sS 5 (xL 0) sEnd)))))))))
 (kSeq (kReg (sS 3 (xK (bool true)) sEnd))
 kRet))))
theorem t44 : FF d44 Tryz.f44 a44 [(.t 3)] := ff Tryz.func44 (by kernel_rfl)
def x44 : XFn := .go a44 3 pd8 [(.t 3)]
def d45 : FD := ⟨45, 2, [4, 3, 2]⟩
def a45 : CodeF := (kSeq (kReg (sH (oBox 67 7 (xT 0)) (sS 4 (xL 0) (sH (oBox 67 7 (xT 1)) (sS 3 (xL 0) (sS 2 (xK (bool false)) sEnd))))))
 (kSeq (kReg (sV (oFaddr 2 (xT 4)) (sV (oLoad (xL 0)) (sV (oFaddr 2 (xT 3)) (sV (oLoad (xL 0)) (sC (cFn 46) [(xL 2), (xL 0)] (sG (xL 0) true (sV (oFaddr 0 (xT 4))) (sG (xL 1) true (sV (oLoad (xL 0))) (sG (xL 2) true (sV (oFaddr 0 (xT 3))) (sG (xL 3) true (sV (oLoad (xL 0))) (sG (xL 4) true (sV (oBin .eql .no (xL 2) (xL 0))) (sV (oPick (xL 5) (xL 0) (xK (bool false))) (sG (xL 0) true (sV (oFaddr 1 (xT 4))) (sG (xL 1) true (sV (oLoad (xL 0))) (sG (xL 2) true (sV (oFaddr 1 (xT 3))) (sG (xL 3) true (sV (oLoad (xL 0))) (sG (xL 4) true (sV (oBin .eql .no (xL 2) (xL 0))) (sV (oPick (xL 5) (xL 0) (xK (bool false))) (sG (xL 0) true (sV (oFaddr 3 (xT 4))) (sG (xL 1) true (sV (oLoad (xL 0))) (sG (xL 2) true (sV (oFaddr 3 (xT 3))) (sG (xL 3) true (sV (oLoad (xL 0))) (sG (xL 4) true (sV (oBin .eql .no (xL 2) (xL 0))) (sV (oPick (xL 5) (xL 0) (xK (bool false))) (sG (xL 0) true (sV (oFaddr 4 (xT 4))) (sG (xL 1) true (sV (oLoad (xL 0))) (sG (xL 2) true (sV (oFaddr 4 (xT 3))) (sG (xL 3) true (sV (oLoad (xL 0))) (sG (xL 4) true (sV (oBin .eql .no (xL 2) (xL 0))) (sV (oPick (xL 5) (xL 0) (xK (bool false))) (sG (xL 0) true (sV (oFaddr 5 (xT 4))) (sG (xL 1) true (sV (oLoad (xL 0))) (sG (xL 2) true (sV (oFaddr 5 (xT 3))) (sG (xL 3) true (sV (oLoad (xL 0))) (sG (xL 4) true (sV (oBin .eql .bool (xL 2) (xL 0))) (sV (oPick (xL 5) (xL 0) (xK (bool false))) (sG (xL 0) true (sV (oFaddr 6 (xT 4))) (sG (xL 1) true (sV (oLoad (xL 0))) (sG (xL 2) true (sV (oFaddr 6 (xT 3))) (sG (xL 3) true (sV (oLoad (xL 0))) (sG (xL 4) true (sV (oBin .eql .bool (xL 2) (xL 0))) (sV (oPick (xL 5) (xL 0) (xK (bool false))) (sS 2 (xL 0) sEnd)))))))))))))))))))))))))))))))))))))))))))
 kRet))
theorem t45 : FF d45 Tryz.f45 a45 [(.t 2)] := ff Tryz.func45 (by kernel_rfl)
def x45 : XFn := .go a45 2 pd3 [(.t 2)]
def d46 : FD := ⟨46, 2, [4, 12, 13, 14, 5, 24]⟩
def a46 : CodeF := (kSeq (kReg (sS 2 (xK (bool false)) sEnd))
 (kSeq (kRegC (fun k => (sV (oLenL (xT 0)) (sV (oLenL (xT 1)) (sV (oBin .neq .no (xL 1) (xL 0)) k)))) (xL 0) (kSeq (kReg (sS 2 (xK (bool false)) sEnd))
 kRet)
 kSkip)
 (kSeq (kSeq (kReg (sV (oLenL (xT 0)) (sS 3 (xL 0) (sS 4 (ki 0) sEnd))))
 (kBlock 0 (kLoop (kSeq (kReg (sV (oBin .lss .no (xT 4) (xT 3)) (sS 5 (xL 0) sEnd)))
 (kSeq (kCond (xT 5) kSkip
 (kExit 0))
 (kSeq (kBlock 1 (kSeq (kReg (sS 6 (xT 4) sEnd))
 (kSeq (kDraw [(.v (oMov (xT 0)), none), (.v (oMov (xT 6)), none), (.v (oIaddr 1 (xL 1) (xL 0)), none), (.v (oLoad (xL 0)), none), (.v (oMov (xT 1)), none), (.v (oMov (xT 6)), none), (.v (oIaddr 1 (xL 1) (xL 0)), none), (.v (oLoad (xL 0)), none), (.v (oBin .neq .no (xL 4) (xL 0)), none)] 0 [none, none, none, none, none, none, none, (some 0)] [])
 (kCond (xT 7) (kSeq (kReg (sS 2 (xK (bool false)) sEnd))
 kRet)
 kSkip))))
 (kReg (sV (oBin .add .no (xT 4) (ki 1)) (sS 4 (xL 0) sEnd)))))))))
 (kSeq (kReg (sS 2 (xK (bool true)) sEnd))
 kRet))))
theorem t46 : FF d46 Tryz.f46 a46 [(.t 2)] := ff Tryz.func46 (by kernel_rfl)
def x46 : XFn := .go a46 2 pd6 [(.t 2)]
def d47 : FD := ⟨47, 1, [2, 1, 3, 10, 11, 12, 4]⟩
def a47 : CodeF := (kSeq (kReg (sH (oBox 38 1 (xT 0)) (sS 2 (xL 0) (sH (oAlloc 38 1 [nils]) (sS 1 (xL 0) sEnd)))))
 (kSeq (kReg (sV (oFaddr 0 (xT 2)) (sV (oLoad (xL 0)) (sC (cFn 93) [(xL 0)] (sC (cFn 92) [(xL 0)] (sS 3 (xL 0) sEnd))))))
 (kSeq (kSeq (kReg (sV (oLenL (xT 3)) (sS 4 (xL 0) (sS 5 (ki 0) sEnd))))
 (kBlock 0 (kLoop (kSeq (kReg (sV (oBin .lss .no (xT 5) (xT 4)) (sS 6 (xL 0) sEnd)))
 (kSeq (kCond (xT 6) kSkip
 (kExit 0))
 (kSeq (kBlock 1 (kSeq (kReg (sS 7 (xT 5) sEnd))
 (kReg (sV (oIaddr 7 (xT 3) (xT 7)) (sV (oFaddr 2 (xL 0)) (sV (oLoad (xL 0)) (sC (cFn 95) [(xL 0)] (sC (cFn 94) [(xL 0)] (sV (oIaddr 7 (xT 3) (xT 7)) (sV (oFaddr 2 (xL 0)) (sH (oStore 1 (xL 0) (xL 2)) sEnd)))))))))))
 (kReg (sV (oBin .add .no (xT 5) (ki 1)) (sS 5 (xL 0) sEnd)))))))))
 (kSeq (kReg (sV (oBuild [nils] [(0, 1, (xT 3))]) (sH (oStore 1 (xT 1) (xL 0)) sEnd)))
 kRet))))
theorem t47 : FF d47 Tryz.f47 a47 [(.cell 1 (some 1))] := ff Tryz.func47 (by kernel_rfl)
def x47 : XFn := .go a47 1 pd7 [(.cell 1 (some 1))]
def d48 : FD := ⟨48, 2, [4, 6, 7, 2, 5]⟩
def a48 : CodeF := (kSeq (kReg (sH (oBox 53 1 (xT 0)) (sS 5 (xL 0) (sS 2 (xK nils) sEnd))))
 (kSeq (kSeq (kReg (sS 3 (xT 1) sEnd))
 (kBlock 0 (kRf 16777994 [4] (xT 3))))
 (kSeq (kReg (sV (oLoad (xT 5)) (sS 2 (xL 0) sEnd)))
 kRet)))
theorem t48 : FF d48 Tryz.f48 a48 [(.t 2)] := ff Tryz.func48 (by kernel_rfl)
def x48 : XFn := .go a48 2 pd5 [(.t 2)]
def r48x0 : CodeF × CodeF := ((kReg (sH (oAlloc 58 3 [(int .i64 (.ofNat 0)), (int .i64 (.ofNat 0)), (int .u64 (.ofNat 0))]) (sS 6 (xL 0) (sH (oStore 3 (xT 6) (xT 4)) sEnd)))),
 (kBlock 1 (kReg (sV (oLoad (xT 5)) (sV (oLoadN 3 (xT 6)) (sH (oBsl 58 3 1 [(int .i64 (.ofNat 0)), (int .i64 (.ofNat 0)), (int .u64 (.ofNat 0))] [(0, 3, (xL 0))]) (sH (oApp 58 3 (xL 2) (xL 0)) (sH (oStore 1 (xT 5) (xL 0)) sEnd))))))))
theorem u48x0 : RfFact Tryz.prog d48 Tryz.f48 16777994 r48x0 := ⟨Tryz.func48, by kernel_rfl⟩
def d49 : FD := ⟨49, 3, [12, 13, 14, 11, 5, 6, 7, 4, 8, 73]⟩
def a49 : CodeF := (kSeq (kReg (sV (oBuild [nils] []) (sH (oBox 108 1 (xL 0)) (sS 10 (xL 0) sEnd))))
 (kSeq (kSeq (kReg (sV (oLoad (xT 1)) (sS 6 (xL 0) (sV (oLenL (xT 6)) (sS 3 (xL 0) (sS 4 (ki 0) sEnd))))))
 (kBlock 0 (kLoop (kSeq (kReg (sV (oBin .lss .no (xT 4) (xT 3)) (sS 5 (xL 0) sEnd)))
 (kSeq (kCond (xT 5) kSkip
 (kExit 0))
 (kSeq (kBlock 1 (kSeq (kReg (sV (oIaddr 1 (xT 6) (xT 4)) (sV (oLoad (xL 0)) (sS 7 (xT 4) (sS 8 (xL 0) sEnd)))))
 (kSeq (kReg (sV (oLoad (xT 2)) (sV (oIaddr 1 (xL 0) (xT 7)) (sV (oLoad (xL 0)) (sC (cFn 50) [(xT 8), (xL 0), (xT 7)] (sH (oAlloc 110 3 [nils, nils, (int .i64 (.ofNat 0))]) (sS 9 (xL 0) (sH (oStore 3 (xT 9) (xL 1)) sEnd))))))))
 (kRegC (fun k => (sV (oFaddr 1 (xT 9)) (sV (oLoad (xL 0)) (sV (oLenL (xL 0)) (sV (oBin .gtr .no (xL 0) (ki 0)) k))))) (xL 0) (kDraw [(.v (oMov (xT 10)), none), (.v (oMov (xT 10)), none), (.v (oNilc (xL 0)), none), (.v (oFaddr 0 (xL 0)), none), (.v (oLoad (xL 0)), none), (.v (oLoadN 3 (xT 9)), none), (.h (oBsl 110 3 1 [nils, nils, (int .i64 (.ofNat 0))] [(0, 3, (xL 0))]), none), (.h (oApp 110 3 (xL 2) (xL 0)), none), (.v (oNilc (xL 7)), none), (.v (oFaddr 0 (xL 0)), none), (.h (oStore 1 (xL 0) (xL 2)), none)] 0 [none, none, none, none, none, none, none, none, none, none, none, none, none] [(6, 4)])
 kSkip))))
 (kReg (sV (oBin .add .no (xT 4) (ki 1)) (sS 4 (xL 0) sEnd)))))))))
 (kSeq (kReg (sV (oMkif 104 (xT 10)) (sC (cFn 51) [(xL 0)] sEnd)))
 (kBlock 2 (kLoop (kSeq (kRegC (fun k => (sV (oNilc (xT 10)) (sV (oFaddr 0 (xL 0)) (sV (oLoad (xL 0)) (sC (cFn 52) [(xL 0)] (sV (oBin .gtr .no (xL 0) (ki 0)) k)))))) (xL 0) kSkip
 (kExit 2))
 (kBlock 3 (kSeq (kReg (sV (oNilc (xT 10)) (sV (oFaddr 0 (xL 0)) (sV (oLoad (xL 0)) (sV (oIaddr 3 (xL 0) (ki 0)) (sS 11 (xL 0) sEnd))))))
 (kSeq (kSeq (kDraw [(.v (oMov (xT 0)), none), (.v (oMov (xT 11)), none), (.v (oNilc (xL 0)), none), (.v (oFaddr 2 (xL 0)), none), (.v (oLoad (xL 0)), none), (.v (oMov (xT 11)), none), (.v (oNilc (xL 0)), none), (.v (oFaddr 1 (xL 0)), none), (.v (oLoad (xL 0)), none), (.v (oIaddr 1 (xL 0) (ki 0)), none), (.v (oLoad (xL 0)), none), (.v (oMov (xT 11)), none), (.v (oNilc (xL 0)), none), (.v (oFaddr 0 (xL 0)), none), (.v (oLoad (xL 0)), none), (.v (oIaddr 1 (xL 0) (ki 0)), none), (.v (oLoad (xL 0)), none), (.v (oBuild [(int .i64 (.ofNat 0)), (int .i64 (.ofNat 0)), (int .u64 (.ofNat 0))] [(0, 1, (xL 12)), (1, 1, (xL 6)), (2, 1, (xL 0))]), none), (.c (cVal (xL 17)) [(xL 0)], none), (.v (oUn .not (xL 0)), none)] 0 [none, none, none, none, none, none, none, none, none, none, none, none, (some 0)] [])
 (kCond (xT 12) kRet
 kSkip))
 (kSeq (kDraw [(.v (oMov (xT 11)), none), (.v (oMov (xT 11)), none), (.v (oMov (xT 11)), none), (.v (oNilc (xL 0)), none), (.v (oFaddr 1 (xL 0)), none), (.v (oLoad (xL 0)), none), (.v (oSlc 1 (xL 0) (some (ki 1)) none none), none), (.v (oMov (xT 11)), none), (.v (oNilc (xL 0)), none), (.v (oFaddr 0 (xL 0)), none), (.v (oLoad (xL 0)), none), (.v (oSlc 1 (xL 0) (some (ki 1)) none none), none), (.v (oNilc (xL 11)), none), (.v (oFaddr 1 (xL 0)), none), (.h (oStore 1 (xL 0) (xL 7)), none), (.v (oNilc (xL 13)), none), (.v (oFaddr 0 (xL 0)), none), (.h (oStore 1 (xL 0) (xL 5)), none)] 0 [none, none, none, none, none, none, none, none, none, none, none, none, none] [(6, 3)])
 (kRegC (fun k => (sV (oNilc (xT 11)) (sV (oFaddr 1 (xL 0)) (sV (oLoad (xL 0)) (sV (oLenL (xL 0)) (sV (oBin .eql .no (xL 0) (ki 0)) k)))))) (xL 0) (kReg (sV (oMkif 104 (xT 10)) (sC (cFn 53) [(xL 0)] sEnd)))
 (kReg (sV (oMkif 104 (xT 10)) (sC (cFn 54) [(xL 0), (ki 0)] sEnd))))))))))))))
theorem t49 : FF d49 Tryz.f49 a49 [] := ff Tryz.func49 (by kernel_rfl)
def x49 : XFn := .go a49 3 pd10 []
def d50 : FD := ⟨50, 3, [6, 15, 16, 7, 9, 8]⟩
def a50 : CodeF := (kSeq (kReg (sH (oAlloc 110 3 [nils, nils, (int .i64 (.ofNat 0))]) (sS 3 (xL 0) sEnd)))
 (kSeq (kReg (sV (oBuild [nils, nils, (int .i64 (.ofNat 0))] [(2, 1, (xT 2))]) (sH (oAlloc 110 3 [nils, nils, (int .i64 (.ofNat 0))]) (sS 6 (xL 0) (sH (oStore 3 (xT 6) (xL 1)) sEnd)))))
 (kSeq (kReg (sC (cFn 16) [(xT 0)] (sH (oAlloc 45 1 [nils]) (sS 8 (xL 0) (sH (oStore 1 (xT 8) (xL 1)) sEnd)))))
 (kSeq (kSeq (kReg (sC (cFn 96) [(xT 1)] (sS 4 (xL 0) sEnd)))
 (kBlock 0 (kRf 67112122 [5] (xT 4))))
 (kSeq (kReg (sV (oLoadN 3 (xT 6)) (sH (oStore 3 (xT 3) (xL 0)) sEnd)))
 kRet)))))
theorem t50 : FF d50 Tryz.f50 a50 [(.cell 3 (some 3))] := ff Tryz.func50 (by kernel_rfl)
def x50 : XFn := .go a50 3 pd6 [(.cell 3 (some 3))]
def r50x0 : CodeF × CodeF := ((kReg (sS 7 (xT 5) sEnd)),
 (kBlock 1 (kSeq (kReg (sV (oFaddr 1 (xT 6)) (sV (oLoad (xL 0)) (sH (oBsl 3 1 1 [(int .i64 (.ofNat 0))] [(0, 1, (xT 7))]) (sH (oApp 3 1 (xL 1) (xL 0)) (sV (oFaddr 1 (xT 6)) (sH (oStore 1 (xL 0) (xL 1)) sEnd)))))))
 (kDraw [(.v (oFaddr 0 (xT 6)), none), (.v (oLoad (xL 0)), none), (.v (oLoad (xT 8)), none), (.v (oMov (xT 7)), none), (.v (oIaddr 1 (xL 1) (xL 0)), none), (.v (oLoad (xL 0)), none), (.h (oBsl 41 1 1 [(int .u64 (.ofNat 0))] [(0, 1, (xL 0))]), none), (.h (oApp 41 1 (xL 5) (xL 0)), none), (.v (oFaddr 0 (xT 6)), none), (.h (oStore 1 (xL 0) (xL 1)), none)] 0 [none, none, none, none, none, none, none, none, none] [(8, 3)]))))
theorem u50x0 : RfFact Tryz.prog d50 Tryz.f50 67112122 r50x0 := ⟨Tryz.func50, by kernel_rfl⟩
def d51 : FD := ⟨51, 1, [2, 3]⟩
def a51 : CodeF := (kSeq (kReg (sC (cMeth [(17, 409, [], true), (29, 32, [], true), (32, 33, [], true), (73, 55, [], true), (104, 52, [0], false), (106, 52, [], true), (175, 147, [], true), (177, 199, [], true), (178, 417, [], true), (179, 419, [], true), (261, 420, [], true), (338, 247, [], true), (405, 278, [], true)] (xT 0)) [] (sS 1 (xL 0) sEnd)))
 (kSeq (kReg (sV (oBin .quo .no (xT 1) (ki 2)) (sV (oBin .sub .no (xL 0) (ki 1)) (sS 2 (xL 0) sEnd))))
 (kBlock 0 (kLoop (kSeq (kRegC (fun k => (sV (oBin .geq .no (xT 2) (ki 0)) k)) (xL 0) kSkip
 (kExit 0))
 (kSeq (kBlock 1 (kReg (sC (cFn 97) [(xT 0), (xT 2), (xT 1)] sEnd)))
 (kReg (sV (oMov (xT 2)) (sV (oBin .sub .no (xL 0) (ki 1)) (sS 2 (xL 0) sEnd))))))))))
theorem t51 : FF d51 Tryz.f51 a51 [] := ff Tryz.func51 (by kernel_rfl)
def x51 : XFn := .go a51 1 pd2 []
def d52 : FD := ⟨52, 1, [2]⟩
def a52 : CodeF := (kSeq (kReg (sS 1 (ki 0) sEnd))
 (kSeq (kReg (sV (oLenL (xT 0)) (sS 1 (xL 0) sEnd)))
 kRet))
theorem t52 : FF d52 Tryz.f52 a52 [(.t 1)] := ff Tryz.func52 (by kernel_rfl)
def x52 : XFn := .go a52 1 pd1 [(.t 1)]
def d53 : FD := ⟨53, 1, [2, 3]⟩
def a53 : CodeF := (kSeq (kReg (sS 1 (xK nilif) sEnd))
 (kSeq (kReg (sC (cMeth [(17, 409, [], true), (29, 32, [], true), (32, 33, [], true), (73, 55, [], true), (104, 52, [0], false), (106, 52, [], true), (175, 147, [], true), (177, 199, [], true), (178, 417, [], true), (179, 419, [], true), (261, 420, [], true), (338, 247, [], true), (405, 278, [], true)] (xT 0)) [] (sV (oBin .sub .no (xL 0) (ki 1)) (sS 2 (xL 0) sEnd))))
 (kSeq (kReg (sC (cMeth [(104, 415, [0], false), (106, 415, [], true)] (xT 0)) [(ki 0), (xT 2)] sEnd))
 (kSeq (kReg (sC (cFn 97) [(xT 0), (ki 0), (xT 2)] sEnd))
 (kSeq (kReg (sC (cMeth [(104, 414, [], true)] (xT 0)) [] (sS 1 (xL 0) sEnd)))
 kRet)))))
theorem t53 : FF d53 Tryz.f53 a53 [(.t 1)] := ff Tryz.func53 (by kernel_rfl)
def x53 : XFn := .go a53 1 pd2 [(.t 1)]
def d54 : FD := ⟨54, 2, []⟩
def a54 : CodeF := (kRegC (fun k => (sC (cMeth [(17, 409, [], true), (29, 32, [], true), (32, 33, [], true), (73, 55, [], true), (104, 52, [0], false), (106, 52, [], true), (175, 147, [], true), (177, 199, [], true), (178, 417, [], true), (179, 419, [], true), (261, 420, [], true), (338, 247, [], true), (405, 278, [], true)] (xT 0)) [] (sC (cFn 97) [(xT 0), (xT 1), (xL 0)] (sV (oUn .not (xL 0)) k)))) (xL 0) (kReg (sC (cFn 98) [(xT 0), (xT 1)] sEnd))
 kSkip)
theorem t54 : FF d54 Tryz.f54 a54 [] := ff Tryz.func54 (by kernel_rfl)
def x54 : XFn := .go a54 2 pd0 []
def d55 : FD := ⟨55, 1, [2]⟩
def a55 : CodeF := (kSeq (kReg (sS 1 (ki 0) sEnd))
 (kSeq (kRegC (fun k => (sV (oBin .eql .ptr (xT 0) (xK nilptr)) k)) (xL 0) (kSeq (kReg (sS 1 (ki 0) sEnd))
 kRet)
 kSkip)
 (kSeq (kReg (sV (oNilc (xT 0)) (sV (oFaddr 1 (xL 0)) (sV (oLoad (xL 0)) (sS 1 (xL 0) sEnd)))))
 kRet)))
theorem t55 : FF d55 Tryz.f55 a55 [(.t 1)] := ff Tryz.func55 (by kernel_rfl)
def x55 : XFn := .go a55 1 pd1 [(.t 1)]
def d56 : FD := ⟨56, 3, [6, 7, 8, 10, 9, 11]⟩
def a56 : CodeF := (kSeq (kReg (sS 3 (ki 0) (sS 4 (xK (bool false)) sEnd)))
 (kSeq (kReg (sV (oLenL (xT 0)) (sS 5 (xL 0) sEnd)))
 (kSeq (kReg (sS 7 (ki 0) (sS 6 (xT 5) sEnd)))
 (kSeq (kBlock 0 (kLoop (kSeq (kRegC (fun k => (sV (oBin .lss .no (xT 7) (xT 6)) k)) (xL 0) kSkip
 (kExit 0))
 (kBlock 1 (kSeq (kReg (sV (oBin .add .no (xT 7) (xT 6)) (sV (oConv .u64 (xL 0)) (sV (oBin .shr .no (xL 0) (xK (int .u64 (.ofNat 1)))) (sV (oConv .i64 (xL 0)) (sS 8 (xL 0) sEnd))))))
 (kRegC (fun k => (sV (oIaddr 3 (xT 0) (xT 8)) (sV (oLoadN 3 (xL 0)) (sC (cVal (xT 2)) [(xL 0), (xT 1)] (sV (oBin .lss .no (xL 0) (ki 0)) k))))) (xL 0) (kReg (sV (oBin .add .no (xT 8) (ki 1)) (sS 7 (xL 0) sEnd)))
 (kReg (sS 6 (xT 8) sEnd))))))))
 (kSeq (kReg (sV (oBin .lss .no (xT 7) (xT 5)) (sG (xL 0) true (sV (oMov (xT 2))) (sG (xL 1) true (sV (oMov (xT 0))) (sG (xL 2) true (sV (oMov (xT 7))) (sG (xL 3) true (sV (oIaddr 3 (xL 1) (xL 0))) (sG (xL 4) true (sV (oLoadN 3 (xL 0))) (sG (xL 5) true (sV (oMov (xT 1))) (sG (xL 6) true (sC (cVal (xL 5)) [(xL 1), (xL 0)]) (sG (xL 7) true (sV (oBin .eql .no (xL 0) (ki 0))) (sV (oPick (xL 8) (xL 0) (xK (bool false))) (sS 3 (xT 7) (sS 4 (xL 0) sEnd)))))))))))))
 kRet)))))
theorem t56 : FF d56 Tryz.f56 a56 [(.t 3), (.t 4)] := ff Tryz.func56 (by kernel_rfl)
def x56 : XFn := .go a56 3 pd6 [(.t 3), (.t 4)]
def d57 : FD := ⟨57, 2, [4, 2]⟩
def a57 : CodeF := (kSeq (kReg (sH (oBox 119 3 (xT 0)) (sS 3 (xL 0) (sS 2 (ki 0) sEnd))))
 (kSeq (kReg (sV (oFaddr 1 (xT 3)) (sV (oLoad (xL 0)) (sV (oBin .sub .no (xL 0) (xT 1)) (sS 2 (xL 0) sEnd)))))
 kRet))
theorem t57 : FF d57 Tryz.f57 a57 [(.t 2)] := ff Tryz.func57 (by kernel_rfl)
def x57 : XFn := .go a57 2 pd2 [(.t 2)]
def d58 : FD := ⟨58, 1, [2, 1]⟩
def a58 : CodeF := (kSeq (kReg (sH (oBox 119 3 (xT 0)) (sS 2 (xL 0) (sS 1 (xK nilfunc) sEnd))))
 (kSeq (kReg (sV (oMkfn 99 [] [(xT 2)]) (sS 1 (xL 0) sEnd)))
 kRet))
theorem t58 : FF d58 Tryz.f58 a58 [(.t 1)] := ff Tryz.func58 (by kernel_rfl)
def x58 : XFn := .go a58 1 pd2 [(.t 1)]
def d59 : FD := ⟨59, 2, [4, 2, 17, 18, 19, 16, 5, 7]⟩
def a59 : CodeF := (kSeq (kReg (sH (oBox 38 1 (xT 0)) (sS 3 (xL 0) (sS 2 (ki 0) sEnd))))
 (kSeq (kBlock 0 (kRegC (fun k => (sV (oLoadN 1 (xT 3)) (sC (cFn 29) [(xL 0)] (sV (oBin .neq .no (xL 0) (ki 0)) k)))) (xL 0) (kSeq (kReg (sS 2 (ki 80) sEnd))
 kRet)
 (kRegC (fun k => (sV (oLenL (xT 1)) (sV (oBin .gtr .no (xL 0) (ki 16384)) k))) (xL 0) (kSeq (kReg (sS 2 (ki 3) sEnd))
 kRet)
 kSkip)))
 (kSeq (kReg (sS 8 (xK (int .u64 (.ofNat 0))) sEnd))
 (kSeq (kSeq (kReg (sS 7 (xT 1) (sV (oLenL (xT 7)) (sS 4 (xL 0) (sS 5 (ki 0) sEnd)))))
 (kBlock 1 (kLoop (kSeq (kReg (sV (oBin .lss .no (xT 5) (xT 4)) (sS 6 (xL 0) sEnd)))
 (kSeq (kCond (xT 6) kSkip
 (kExit 1))
 (kSeq (kBlock 2 (kSeq (kReg (sV (oIaddr 2 (xT 7) (xT 5)) (sV (oLoadN 2 (xL 0)) (sH (oAlloc 63 2 [(int .u64 (.ofNat 0)), nils]) (sS 9 (xL 0) (sH (oStore 2 (xT 9) (xL 1)) sEnd))))))
 (kSeq (kRegC (fun k => (sV (oFaddr 0 (xT 9)) (sV (oLoad (xL 0)) (sV (oBin .leq .no (xL 0) (xT 8)) k)))) (xL 0) (kSeq (kReg (sS 2 (ki 1) sEnd))
 kRet)
 kSkip)
 (kReg (sV (oFaddr 0 (xT 9)) (sV (oLoad (xL 0)) (sS 8 (xL 0) sEnd)))))))
 (kReg (sV (oBin .add .no (xT 5) (ki 1)) (sS 5 (xL 0) sEnd)))))))))
 (kSeq (kReg (sS 2 (ki 0) sEnd))
 kRet)))))
theorem t59 : FF d59 Tryz.f59 a59 [(.t 2)] := ff Tryz.func59 (by kernel_rfl)
def x59 : XFn := .go a59 2 pd8 [(.t 2)]
def d60 : FD := ⟨60, 2, [4, 5, 2, 6, 3, 38, 39, 40, 37, 11, 12, 9, 15, 14, 8, 13, 62, 63, 64, 61, 17, 18, 7]⟩
def a60 : CodeF := (kSeq (kReg (sH (oBox 38 1 (xT 0)) (sS 4 (xL 0) (sH (oBox 61 1 (xT 1)) (sS 6 (xL 0) (sS 2 (xK nils) (sS 3 (ki 0) sEnd)))))))
 (kSeq (kSeq (kReg (sV (oLoadN 1 (xT 4)) (sC (cFn 29) [(xL 0)] (sS 5 (xL 0) sEnd))))
 (kRegC (fun k => (sV (oBin .neq .no (xT 5) (ki 0)) k)) (xL 0) (kSeq (kReg (sS 2 (xK nils) (sS 3 (xT 5) sEnd)))
 kRet)
 kSkip))
 (kSeq (kRegC (fun k => (sV (oFaddr 0 (xT 6)) (sV (oLoad (xL 0)) (sV (oLenL (xL 0)) (sV (oBin .gtr .no (xL 0) (ki 64)) k))))) (xL 0) (kSeq (kReg (sS 2 (xK nils) (sS 3 (ki 84) sEnd)))
 kRet)
 kSkip)
 (kSeq (kReg (sS 24 (xK nils) sEnd))
 (kSeq (kDraw [(.v (oFaddr 0 (xT 4)), none), (.v (oLoad (xL 0)), none), (.v (oLenL (xL 0)), none), (.v (oFaddr 0 (xT 4)), none), (.v (oLoad (xL 0)), none), (.v (oLenL (xL 0)), none), (.f (oMksl 3 1 [(int .i64 (.ofNat 0))] (xL 3) (xL 3)), none), (.f (oAlloc 22 1 [nils]), none), (.f (oAlloc 22 1 [nils]), none), (.h (oStore 1 (xL 1) (xL 2)), none), (.f (oMksl 3 1 [(int .i64 (.ofNat 0))] (xL 4) (xL 4)), none), (.h (oStore 1 (xL 2) (xL 0)), none)] 4 [none, none, none, none, none, none, none, none, none, none, none, none, none, (some 3), none, none, (some 4), none, none, none, none, none, none, none, none] [(7, 2)])
 (kSeq (kSeq (kReg (sV (oFaddr 0 (xT 6)) (sV (oLoad (xL 0)) (sS 10 (xL 0) (sV (oLenL (xT 10)) (sS 7 (xL 0) (sS 8 (ki 0) sEnd)))))))
 (kBlock 0 (kLoop (kSeq (kReg (sV (oBin .lss .no (xT 8) (xT 7)) (sS 9 (xL 0) sEnd)))
 (kSeq (kCond (xT 9) kSkip
 (kExit 0))
 (kSeq (kBlock 1 (kSeq (kReg (sV (oIaddr 3 (xT 10) (xT 8)) (sV (oLoadN 3 (xL 0)) (sH (oAlloc 71 3 [(str []), (str []), nils]) (sS 11 (xL 0) (sH (oStore 3 (xT 11) (xL 1)) sEnd))))))
 (kSeq (kReg (sV (oLoadN 1 (xT 4)) (sV (oFaddr 0 (xT 11)) (sV (oLoad (xL 0)) (sC (cFn 42) [(xL 2), (xL 0)] (sV (oExt 0 (xL 0)) (sV (oExt 1 (xL 1)) (sH (oAlloc 3 1 [(int .i64 (.ofNat 0))]) (sS 12 (xL 0) (sH (oAlloc 4 1 [(bool false)]) (sS 17 (xL 0) (sH (oStore 1 (xT 12) (xL 3)) (sH (oStore 1 (xT 17) (xL 3)) sEnd)))))))))))))
 (kSeq (kReg (sV (oFaddr 0 (xT 4)) (sV (oLoad (xL 0)) (sV (oLoad (xT 12)) (sV (oIaddr 7 (xL 1) (xL 0)) (sV (oLoadN 7 (xL 0)) (sH (oAlloc 67 7 [(str []), (int .i64 (.ofNat 0)), nils, (int .i64 (.ofNat 0)), (int .i64 (.ofNat 0)), (bool false), (bool false)]) (sS 15 (xL 0) (sH (oStore 7 (xT 15) (xL 1)) sEnd)))))))))
 (kSeq (kReg (sV (oLoad (xT 12)) (sV (oBuild [(int .i64 (.ofNat 0)), (str []), nils] [(0, 1, (xL 0))]) (sH (oAlloc 153 3 [(int .i64 (.ofNat 0)), (str []), nils]) (sS 14 (xL 0) (sH (oStore 3 (xT 14) (xL 1)) sEnd))))))
 (kSeq (kSeq (kReg (sV (oMkfn 103 [] [(xT 17)]) (sV (oMkfn 105 [] [(xT 15), (xT 11)]) (sV (oMkfn 107 [] [(xT 15), (xT 16), (xT 12)]) (sV (oMkfn 108 [] [(xT 15), (xT 11), (xT 14), (xT 13), (xT 12)]) (sH (oBsl 171 1 4 [nilfunc] [(0, 1, (xL 3)), (1, 1, (xL 2)), (2, 1, (xL 1)), (3, 1, (xL 0))]) (sS 21 (xL 0) (sV (oLenL (xT 21)) (sS 18 (xL 0) (sS 19 (ki 0) sEnd))))))))))
 (kBlock 2 (kLoop (kSeq (kReg (sV (oBin .lss .no (xT 19) (xT 18)) (sS 20 (xL 0) sEnd)))
 (kSeq (kCond (xT 20) kSkip
 (kExit 2))
 (kSeq (kBlock 3 (kSeq (kReg (sV (oIaddr 1 (xT 21) (xT 19)) (sV (oLoad (xL 0)) (sS 22 (xL 0) sEnd))))
 (kSeq (kReg (sC (cVal (xT 22)) [] (sS 23 (xL 0) sEnd)))
 (kRegC (fun k => (sV (oBin .neq .no (xT 23) (ki 0)) k)) (xL 0) (kSeq (kReg (sS 2 (xK nils) (sS 3 (xT 23) sEnd)))
 kRet)
 kSkip))))
 (kReg (sV (oBin .add .no (xT 19) (ki 1)) (sS 19 (xL 0) sEnd)))))))))
 (kSeq (kReg (sV (oLoad (xT 16)) (sV (oLoad (xT 12)) (sV (oIaddr 1 (xL 1) (xL 0)) (sV (oLoad (xL 0)) (sV (oBin .add .no (xL 0) (ki 1)) (sV (oIaddr 1 (xL 4) (xL 3)) (sH (oStore 1 (xL 0) (xL 1)) sEnd))))))))
 (kReg (sV (oMov (xT 24)) (sV (oLoadN 3 (xT 14)) (sH (oBsl 153 3 1 [(int .i64 (.ofNat 0)), (str []), nils] [(0, 3, (xL 0))]) (sH (oApp 153 3 (xL 2) (xL 0)) (sS 24 (xL 0) sEnd)))))))))))))
 (kReg (sV (oBin .add .no (xT 8) (ki 1)) (sS 8 (xL 0) sEnd)))))))))
 (kSeq (kReg (sS 2 (xT 24) (sS 3 (ki 0) sEnd)))
 kRet)))))))
theorem t60 : FF d60 Tryz.f60 a60 [(.t 2), (.t 3)] := ff Tryz.func60 (by kernel_rfl)
def x60 : XFn := .go a60 2 pd23 [(.t 2), (.t 3)]
def d61 : FD := ⟨61, 1, [2, 1, 12, 13, 14, 11, 5, 4, 3]⟩
def a61 : CodeF := (kSeq (kReg (sH (oBox 61 1 (xT 0)) (sS 2 (xL 0) (sH (oAlloc 61 1 [nils]) (sS 1 (xL 0) sEnd)))))
 (kSeq (kReg (sV (oFaddr 0 (xT 2)) (sV (oLoad (xL 0)) (sV (oLenL (xL 0)) (sH (oMksl 71 3 [(str []), (str []), nils] (xL 0) (xL 0)) (sS 9 (xL 0) sEnd))))))
 (kSeq (kSeq (kReg (sV (oFaddr 0 (xT 2)) (sV (oLoad (xL 0)) (sS 6 (xL 0) (sV (oLenL (xT 6)) (sS 3 (xL 0) (sS 4 (ki 0) sEnd)))))))
 (kBlock 0 (kLoop (kSeq (kReg (sV (oBin .lss .no (xT 4) (xT 3)) (sS 5 (xL 0) sEnd)))
 (kSeq (kCond (xT 5) kSkip
 (kExit 0))
 (kSeq (kBlock 1 (kSeq (kReg (sV (oIaddr 3 (xT 6) (xT 4)) (sV (oLoadN 3 (xL 0)) (sH (oAlloc 71 3 [(str []), (str []), nils]) (sS 7 (xL 0) (sS 8 (xT 4) (sH (oStore 3 (xT 7) (xL 1)) sEnd)))))))
 (kSeq (kReg (sV (oFaddr 2 (xT 7)) (sV (oLoad (xL 0)) (sC (cFn 111) [(xL 0)] (sC (cFn 110) [(xL 0)] (sV (oFaddr 2 (xT 7)) (sH (oStore 1 (xL 0) (xL 1)) sEnd)))))))
 (kReg (sV (oLoadN 3 (xT 7)) (sV (oIaddr 3 (xT 9) (xT 8)) (sH (oStore 3 (xL 0) (xL 1)) sEnd)))))))
 (kReg (sV (oBin .add .no (xT 4) (ki 1)) (sS 4 (xL 0) sEnd)))))))))
 (kSeq (kReg (sV (oBuild [nils] [(0, 1, (xT 9))]) (sH (oStore 1 (xT 1) (xL 0)) sEnd)))
 kRet))))
theorem t61 : FF d61 Tryz.f61 a61 [(.cell 1 (some 1))] := ff Tryz.func61 (by kernel_rfl)
def x61 : XFn := .go a61 1 pd9 [(.cell 1 (some 1))]
def d62 : FD := ⟨62, 1, [2]⟩
def a62 : CodeF := (kSeq (kReg (sS 1 (xK nilfunc) sEnd))
 (kSeq (kDraw [(.v (oMov (xT 0)), none), (.v (oMkfn 112 [(xL 0)] []), none), (.v (oMov (xT 0)), none), (.v (oMkfn 113 [(xL 0)] []), none), (.v (oMov (xT 0)), none), (.v (oMkfn 114 [(xL 0)] []), none), (.v (oMov (xT 0)), none), (.v (oMkfn 114 [(xL 0)] []), none), (.v (oMov (xT 0)), none), (.v (oMkfn 115 [(xL 0)] []), none), (.h (oBsl 149 1 6 [nilfunc] [(1, 1, (xL 8)), (2, 1, (xL 6)), (3, 1, (xL 4)), (4, 1, (xL 2)), (5, 1, (xL 0))]), none), (.v (oMov (xT 0)), none), (.v (oNilc (xL 0)), none), (.v (oFaddr 6 (xL 0)), none), (.v (oFaddr 0 (xL 0)), none), (.v (oLoad (xL 0)), none), (.v (oMov (xT 0)), none), (.v (oNilc (xL 0)), none), (.v (oFaddr 7 (xL 0)), none), (.v (oLoad (xL 0)), none), (.v (oIaddr 7 (xL 4) (xL 0)), none), (.v (oFaddr 1 (xL 0)), none), (.v (oLoad (xL 0)), none), (.v (oIaddr 1 (xL 12) (xL 0)), none), (.v (oLoad (xL 0)), none), (.v (oMov (xL 0)), none)] 0 [none, (some 0)] [(10, 15), (6, 15), (3, 15)])
 kRet))
theorem t62 : FF d62 Tryz.f62 a62 [(.t 1)] := ff Tryz.func62 (by kernel_rfl)
def x62 : XFn := .go a62 1 pd1 [(.t 1)]
def d63 : FD := ⟨63, 2, [4, 5, 6, 7]⟩
def a63 : CodeF := (kSeq (kReg (sS 2 (xK nils) sEnd))
 (kSeq (kReg (sC (cFn 116) [(xT 0), (xT 1)] (sS 3 (xL 0) sEnd)))
 (kSeq (kRegC (fun k => (sV (oBin .eql .no (xT 3) (xK (int .i64 (.negSucc 0)))) k)) (xL 0) (kSeq (kReg (sS 2 (xT 0) sEnd))
 kRet)
 kSkip)
 (kSeq (kSeq (kReg (sV (oBin .add .no (xT 3) (ki 1)) (sS 4 (xL 0) sEnd)))
 (kBlock 0 (kLoop (kSeq (kRegC (fun k => (sV (oLenL (xT 0)) (sV (oBin .lss .no (xT 4) (xL 0)) k))) (xL 0) kSkip
 (kExit 0))
 (kSeq (kBlock 1 (kSeq (kReg (sV (oIaddr 3 (xT 0) (xT 4)) (sV (oLoadN 3 (xL 0)) (sH (oAlloc 153 3 [(int .i64 (.ofNat 0)), (str []), nils]) (sS 5 (xL 0) (sH (oStore 3 (xT 5) (xL 1)) sEnd))))))
 (kRegC (fun k => (sV (oLoadN 3 (xT 5)) (sC (cVal (xT 1)) [(xL 0)] (sV (oUn .not (xL 0)) k)))) (xL 0) (kSeq (kReg (sV (oLoadN 3 (xT 5)) (sV (oIaddr 3 (xT 0) (xT 3)) (sH (oStore 3 (xL 0) (xL 1)) sEnd))))
 (kReg (sV (oMov (xT 3)) (sV (oBin .add .no (xL 0) (ki 1)) (sS 3 (xL 0) sEnd)))))
 kSkip)))
 (kReg (sV (oMov (xT 4)) (sV (oBin .add .no (xL 0) (ki 1)) (sS 4 (xL 0) sEnd)))))))))
 (kSeq (kReg (sV (oSlc 3 (xT 0) (some (xT 3)) none none) (sH (oClr [(int .i64 (.ofNat 0)), (str []), nils] (xL 0)) sEnd)))
 (kSeq (kReg (sV (oSlc 3 (xT 0) none (some (xT 3)) none) (sS 2 (xL 0) sEnd)))
 kRet))))))
theorem t63 : FF d63 Tryz.f63 a63 [(.t 2)] := ff Tryz.func63 (by kernel_rfl)
def x63 : XFn := .go a63 2 pd4 [(.t 2)]
def d64 : FD := ⟨64, 1, [2]⟩
def a64 : CodeF := (kSeq (kReg (sS 1 (xK nils) sEnd))
 (kSeq (kRegC (fun k => (sV (oBin .eql .slice (xT 0) (xK nils)) k)) (xL 0) (kSeq (kReg (sS 1 (xK nils) sEnd))
 kRet)
 kSkip)
 (kSeq (kReg (sH (oBsl 153 3 0 [(int .i64 (.ofNat 0)), (str []), nils] []) (sH (oApp 153 3 (xL 0) (xT 0)) (sS 1 (xL 0) sEnd))))
 kRet)))
theorem t64 : FF d64 Tryz.f64 a64 [(.t 1)] := ff Tryz.func64 (by kernel_rfl)
def x64 : XFn := .go a64 1 pd1 [(.t 1)]
def d65 : FD := ⟨65, 2, [3, 2]⟩
def a65 : CodeF := (kSeq (kReg (sH (oBox 153 3 (xT 0)) (sS 3 (xL 0) (sS 2 (xK (bool false)) sEnd))))
 (kSeq (kReg (sV (oFaddr 0 (xT 3)) (sV (oLoad (xL 0)) (sV (oLoad (xT 1)) (sV (oBin .neq .no (xL 1) (xL 0)) (sS 2 (xL 0) sEnd))))))
 kRet))
theorem t65 : FF d65 Tryz.f65 a65 [(.t 2)] := ff Tryz.func65 (by kernel_rfl)
def x65 : XFn := .go a65 2 pd2 [(.t 2)]
def d66 : FD := ⟨66, 1, [2, 16, 17, 18, 15, 4, 5, 30, 31, 32, 29, 8, 6, 9]⟩
def a66 : CodeF := (kSeq (kReg (sH (oAlloc 142 6 [nils, nils, nils, nils, nils, nils]) (sS 1 (xL 0) sEnd)))
 (kSeq (kSeq (kReg (sV (oNilc (xT 0)) (sV (oFaddr 8 (xL 0)) (sV (oLoad (xL 0)) (sC (cFn 118) [(xL 0)] (sC (cFn 117) [(xL 0)] (sS 5 (xL 0) (sV (oLenL (xT 5)) (sS 2 (xL 0) (sS 3 (ki 0) sEnd))))))))))
 (kBlock 0 (kLoop (kSeq (kReg (sV (oBin .lss .no (xT 3) (xT 2)) (sS 4 (xL 0) sEnd)))
 (kSeq (kCond (xT 4) kSkip
 (kExit 0))
 (kSeq (kBlock 1 (kSeq (kReg (sV (oIaddr 1 (xT 5) (xT 3)) (sV (oLoad (xL 0)) (sS 6 (xL 0) sEnd))))
 (kSeq (kReg (sV (oNilc (xT 0)) (sV (oFaddr 8 (xL 0)) (sV (oLoad (xL 0)) (sV (oLook .str nilmap false (xL 0) (xT 6)) (sS 7 (xL 0) sEnd))))))
 (kSeq (kReg (sS 13 (xK nils) sEnd))
 (kSeq (kSeq (kReg (sC (cFn 120) [(xT 7)] (sC (cFn 119) [(xL 0)] (sS 11 (xL 0) (sV (oLenL (xT 11)) (sS 8 (xL 0) (sS 9 (ki 0) sEnd)))))))
 (kBlock 2 (kLoop (kSeq (kReg (sV (oBin .lss .no (xT 9) (xT 8)) (sS 10 (xL 0) sEnd)))
 (kSeq (kCond (xT 10) kSkip
 (kExit 2))
 (kSeq (kBlock 3 (kSeq (kReg (sV (oIaddr 1 (xT 11) (xT 9)) (sV (oLoad (xL 0)) (sS 12 (xL 0) sEnd))))
 (kReg (sV (oMov (xT 13)) (sV (oLook .int nils false (xT 7) (xT 12)) (sC (cFn 94) [(xL 0)] (sV (oBuild [(int .i64 (.ofNat 0)), nils] [(0, 1, (xT 12)), (1, 1, (xL 0))]) (sH (oBsl 224 2 1 [(int .i64 (.ofNat 0)), nils] [(0, 2, (xL 0))]) (sH (oApp 224 2 (xL 4) (xL 0)) (sS 13 (xL 0) sEnd))))))))))
 (kReg (sV (oBin .add .no (xT 9) (ki 1)) (sS 9 (xL 0) sEnd)))))))))
 (kSeq (kReg (sV (oNilc (xT 0)) (sV (oFaddr 0 (xL 0)) (sV (oFaddr 0 (xL 0)) (sV (oLoad (xL 0)) (sH (oBsl 9 1 1 [(str [])] [(0, 1, (xT 6))]) (sH (oApp 9 1 (xL 1) (xL 0)) (sV (oNilc (xT 0)) (sV (oFaddr 0 (xL 0)) (sV (oFaddr 0 (xL 0)) (sH (oStore 1 (xL 0) (xL 3)) sEnd)))))))))))
 (kDraw [(.v (oMov (xT 0)), none), (.v (oMov (xT 0)), none), (.v (oNilc (xL 0)), none), (.v (oFaddr 0 (xL 0)), none), (.v (oFaddr 1 (xL 0)), none), (.v (oLoad (xL 0)), none), (.v (oMov (xT 13)), none), (.c (cFn 121) [(xL 0)], none), (.h (oBsl 220 1 1 [nils] [(0, 1, (xL 0))]), none), (.h (oApp 220 1 (xL 3) (xL 0)), none), (.v (oNilc (xL 9)), none), (.v (oFaddr 0 (xL 0)), none), (.v (oFaddr 1 (xL 0)), none), (.h (oStore 1 (xL 0) (xL 3)), none)] 0 [none, none, none, none, none, none, none, none, none, none, none, none, none, none, none] [(8, 6), (8, 5)])))))))
 (kReg (sV (oBin .add .no (xT 3) (ki 1)) (sS 3 (xL 0) sEnd)))))))))
 (kSeq (kReg (sV (oNilc (xT 0)) (sV (oFaddr 0 (xL 0)) (sS 14 (xL 0) sEnd))))
 (kSeq (kDraw [(.v (oMov (xT 14)), none), (.v (oMov (xT 14)), none), (.v (oMov (xT 14)), none), (.v (oMov (xT 14)), none), (.v (oMov (xT 14)), none), (.v (oMov (xT 14)), none), (.v (oMov (xT 14)), none), (.v (oNilc (xL 0)), none), (.v (oFaddr 0 (xL 0)), none), (.v (oLoad (xL 0)), none), (.c (cFn 122) [(xL 0)], none), (.v (oMov (xT 14)), none), (.v (oNilc (xL 0)), none), (.v (oFaddr 1 (xL 0)), none), (.v (oLoad (xL 0)), none), (.c (cFn 123) [(xL 0)], none), (.v (oMov (xT 14)), none), (.v (oNilc (xL 0)), none), (.v (oFaddr 2 (xL 0)), none), (.v (oLoad (xL 0)), none), (.c (cFn 110) [(xL 0)], none), (.v (oMov (xT 14)), none), (.v (oNilc (xL 0)), none), (.v (oFaddr 3 (xL 0)), none), (.v (oLoad (xL 0)), none), (.c (cFn 124) [(xL 0)], none), (.v (oMov (xT 14)), none), (.v (oNilc (xL 0)), none), (.v (oFaddr 4 (xL 0)), none), (.v (oLoad (xL 0)), none), (.c (cFn 125) [(xL 0)], none), (.v (oMov (xT 14)), none), (.v (oNilc (xL 0)), none), (.v (oFaddr 5 (xL 0)), none), (.v (oLoad (xL 0)), none), (.c (cFn 126) [(xL 0)], none), (.v (oNilc (xL 35)), none), (.v (oFaddr 0 (xL 0)), none), (.h (oStore 1 (xL 0) (xL 27)), none), (.v (oNilc (xL 37)), none), (.v (oFaddr 1 (xL 0)), none), (.h (oStore 1 (xL 0) (xL 25)), none), (.v (oNilc (xL 39)), none), (.v (oFaddr 2 (xL 0)), none), (.h (oStore 1 (xL 0) (xL 23)), none), (.v (oNilc (xL 41)), none), (.v (oFaddr 3 (xL 0)), none), (.h (oStore 1 (xL 0) (xL 21)), none), (.v (oNilc (xL 43)), none), (.v (oFaddr 4 (xL 0)), none), (.h (oStore 1 (xL 0) (xL 19)), none), (.v (oNilc (xL 45)), none), (.v (oFaddr 5 (xL 0)), none), (.h (oStore 1 (xL 0) (xL 17)), none)] 0 [none, none, none, none, none, none, none, none, none, none, none, none, none, none, none] [(39, 43), (34, 43), (34, 38), (29, 43), (29, 38), (29, 33), (24, 43), (24, 38), (24, 33), (24, 28), (19, 43), (19, 38), (19, 33), (19, 28), (19, 23)])
 (kSeq (kReg (sV (oNilc (xT 0)) (sV (oFaddr 0 (xL 0)) (sV (oLoadN 6 (xL 0)) (sH (oStore 6 (xT 1) (xL 0)) sEnd)))))
 kRet)))))
theorem t66 : FF d66 Tryz.f66 a66 [(.cell 1 (some 6))] := ff Tryz.func66 (by kernel_rfl)
def x66 : XFn := .go a66 1 pd14 [(.cell 1 (some 6))]
def d67 : FD := ⟨67, 1, [2]⟩
def a67 : CodeF := (kSeq (kReg (sS 1 (xK nils) sEnd))
 (kSeq (kReg (sV (oLenL (xT 0)) (sV (oLenL (xT 0)) (sV (oSlc 1 (xT 0) none (some (xL 1)) (some (xL 0))) (sS 1 (xL 0) sEnd)))))
 kRet))
theorem t67 : FF d67 Tryz.f67 a67 [(.t 1)] := ff Tryz.func67 (by kernel_rfl)
def x67 : XFn := .go a67 1 pd1 [(.t 1)]
def d68 : FD := ⟨68, 1, [2]⟩
def a68 : CodeF := (kSeq (kReg (sS 1 (xK nils) sEnd))
 (kSeq (kReg (sV (oLenL (xT 0)) (sV (oLenL (xT 0)) (sV (oSlc 6 (xT 0) none (some (xL 1)) (some (xL 0))) (sS 1 (xL 0) sEnd)))))
 kRet))
theorem t68 : FF d68 Tryz.f68 a68 [(.t 1)] := ff Tryz.func68 (by kernel_rfl)
def x68 : XFn := .go a68 1 pd1 [(.t 1)]
def d69 : FD := ⟨69, 1, [2, 1]⟩
def a69 : CodeF := (kSeq (kReg (sH (oBox 160 1 (xT 0)) (sS 2 (xL 0) (sS 1 (xK nilfunc) sEnd))))
 (kSeq (kReg (sV (oMkfn 127 [] [(xT 2)]) (sS 1 (xL 0) sEnd)))
 kRet))
theorem t69 : FF d69 Tryz.f69 a69 [(.t 1)] := ff Tryz.func69 (by kernel_rfl)
def x69 : XFn := .go a69 1 pd2 [(.t 1)]
def d70 : FD := ⟨70, 2, [4]⟩
def a70 : CodeF := (kSeq (kReg (sS 2 (xK nils) sEnd))
 (kSeq (kRegC (fun k => (sV (oBin .neq .no (xT 1) (ki 0)) k)) (xL 0) (kReg (sV (oBuild [(int .i64 (.ofNat 0))] [(0, 1, (xT 1))]) (sV (oMkif 127 (xL 0)) (sPan (xL 0)))))
 kSkip)
 (kSeq (kReg (sS 2 (xT 0) sEnd))
 kRet)))
theorem t70 : FF d70 Tryz.f70 a70 [(.t 2)] := ff Tryz.func70 (by kernel_rfl)
def x70 : XFn := .go a70 2 pd1 [(.t 2)]
def d71 : FD := ⟨71, 2, [4, 5, 8, 6, 7, 49, 9, 10, 58, 59, 60, 11, 69, 70, 71, 68, 14, 12]⟩
def a71 : CodeF := (kSeq (kReg (sS 2 (xK nils) (sS 3 (ki 0) sEnd)))
 (kSeq (kRegC (fun k => (sV (oLenL (xT 1)) (sV (oBin .gtr .no (xL 0) (ki 16777216)) k))) (xL 0) (kSeq (kReg (sS 2 (xK nils) (sS 3 (ki 3) sEnd)))
 kRet)
 kSkip)
 (kSeq (kReg (sC (cFn 128) [(xT 1)] (sV (oExt 0 (xL 0)) (sV (oExt 1 (xL 1)) (sS 5 (xL 1) (sS 6 (xL 0) sEnd))))))
 (kSeq (kReg (sV (oLenL (xT 1)) (sV (oBin .sub .no (xL 0) (ki 4)) (sS 4 (xL 0) sEnd))))
 (kSeq (kSeq (kDraw [(.v (oMov (xT 6)), none), (.v (oUn .not (xL 0)), none), (.v (oMov (xL 0)), none), (.v (oMov (xT 5)), (some ((xL 0), false))), (.v (oMov (xT 0)), (some ((xL 1), false))), (.v (oBin .neq .no (xL 1) (xL 0)), (some ((xL 2), false))), (.v (oPick (xL 3) (xK (bool true)) (xL 0)), none), (.v (oMov (xL 0)), none), (.v (oMov (xT 4)), (some ((xL 0), false))), (.v (oBin .lss .no (xL 0) (ki 4)), (some ((xL 1), false))), (.v (oPick (xL 2) (xK (bool true)) (xL 0)), none), (.v (oMov (xL 0)), none), (.v (oMov (xT 1)), (some ((xL 0), false))), (.v (oMov (xT 4)), (some ((xL 1), false))), (.v (oSlc 1 (xL 1) (some (xL 0)) none none), (some ((xL 2), false))), (.v (oMov (xT 1)), (some ((xL 3), false))), (.v (oMov (xT 4)), (some ((xL 4), false))), (.v (oSlc 1 (xL 1) none (some (xL 0)) none), (some ((xL 5), false))), (.h (oBsl 48 1 1 [nils] [(0, 1, (xL 0))]), (some ((xL 6), false))), (.c (cFn 131) [(xL 0)], (some ((xL 7), false))), (.c (cFn 130) [(xL 0)], (some ((xL 8), false))), (.c (cFn 129) [(xL 6), (xL 0)], (some ((xL 9), false))), (.v (oUn .not (xL 0)), (some ((xL 10), false))), (.v (oPick (xL 11) (xK (bool true)) (xL 0)), none)] 0 [none, none, none, none, none, none, none, (some 0), none, none, none, none, none, none, none, none, none, none, none, none] [(9, 5), (9, 4), (9, 3)])
 (kCond (xT 7) (kSeq (kReg (sS 2 (xK nils) (sS 3 (ki 20) sEnd)))
 kRet)
 kSkip))
 (kSeq (kReg (sV (oSlc 1 (xT 1) (some (ki 4)) (some (xT 4)) none) (sC (cFn 72) [(xL 0)] (sS 8 (xL 0) sEnd))))
 (kSeq (kReg (sC (cFn 73) [(xT 8), (ki 1024)] (sH (oMksl 3 1 [(int .i64 (.ofNat 0))] (xL 0) (xL 0)) (sS 9 (xL 0) sEnd))))
 (kSeq (kSeq (kReg (sV (oLenL (xT 9)) (sS 10 (xL 0) (sS 11 (ki 0) sEnd))))
 (kBlock 0 (kLoop (kSeq (kReg (sV (oBin .lss .no (xT 11) (xT 10)) (sS 12 (xL 0) sEnd)))
 (kSeq (kCond (xT 12) kSkip
 (kExit 0))
 (kSeq (kBlock 1 (kSeq (kReg (sS 13 (xT 11) sEnd))
 (kReg (sC (cFn 73) [(xT 8), (ki 16777216)] (sV (oIaddr 1 (xT 9) (xT 13)) (sH (oStore 1 (xL 0) (xL 1)) sEnd))))))
 (kReg (sV (oBin .add .no (xT 11) (ki 1)) (sS 11 (xL 0) sEnd)))))))))
 (kSeq (kReg (sS 19 (xK nils) sEnd))
 (kSeq (kSeq (kReg (sS 17 (xT 9) (sV (oLenL (xT 17)) (sS 14 (xL 0) (sS 15 (ki 0) sEnd)))))
 (kBlock 2 (kLoop (kSeq (kReg (sV (oBin .lss .no (xT 15) (xT 14)) (sS 16 (xL 0) sEnd)))
 (kSeq (kCond (xT 16) kSkip
 (kExit 2))
 (kSeq (kBlock 3 (kSeq (kReg (sV (oIaddr 1 (xT 17) (xT 15)) (sV (oLoad (xL 0)) (sS 18 (xL 0) sEnd))))
 (kReg (sV (oMov (xT 19)) (sC (cFn 75) [(xT 8), (xT 18)] (sH (oBsl 48 1 1 [nils] [(0, 1, (xL 0))]) (sH (oApp 48 1 (xL 2) (xL 0)) (sS 19 (xL 0) sEnd))))))))
 (kReg (sV (oBin .add .no (xT 15) (ki 1)) (sS 15 (xL 0) sEnd)))))))))
 (kSeq (kRegC (fun k => (sC (cFn 132) [(xT 8)] (sV (oBin .neq .no (xL 0) (ki 0)) k))) (xL 0) (kSeq (kReg (sS 2 (xK nils) (sS 3 (ki 20) sEnd)))
 kRet)
 kSkip)
 (kSeq (kReg (sC (cFn 133) [(xT 19)] (sS 2 (xL 0) (sS 3 (ki 0) sEnd))))
 kRet))))))))))))
theorem t71 : FF d71 Tryz.f71 a71 [(.t 2), (.t 3)] := ff Tryz.func71 (by kernel_rfl)
def x71 : XFn := .go a71 2 pd18 [(.t 2), (.t 3)]
def d72 : FD := ⟨72, 1, [2]⟩
def a72 : CodeF := (kSeq (kReg (sS 1 (xK nilptr) sEnd))
 (kSeq (kReg (sC (cFn 28) [(xT 0)] (sV (oBuild [nils, (int .i64 (.ofNat 0)), (int .i64 (.ofNat 0))] [(0, 1, (xL 0))]) (sH (oBox 241 3 (xL 0)) (sS 1 (xL 0) sEnd)))))
 kRet))
theorem t72 : FF d72 Tryz.f72 a72 [(.t 1)] := ff Tryz.func72 (by kernel_rfl)
def x72 : XFn := .go a72 1 pd1 [(.t 1)]
def d73 : FD := ⟨73, 2, [4, 3, 2]⟩
def a73 : CodeF := (kSeq (kReg (sH (oBox 164 1 (xT 0)) (sS 4 (xL 0) (sH (oBox 3 1 (xT 1)) (sS 3 (xL 0) (sS 2 (ki 0) sEnd))))))
 (kSeq (kReg (sV (oLoad (xT 4)) (sV (oMkfn 135 [] [(xT 4), (xT 3)]) (sC (cFn 134) [(xL 1), (xL 0)] (sS 2 (xL 0) sEnd)))))
 kRet))
theorem t73 : FF d73 Tryz.f73 a73 [(.t 2)] := ff Tryz.func73 (by kernel_rfl)
def x73 : XFn := .go a73 2 pd3 [(.t 2)]
def d74 : FD := ⟨74, 2, [4, 5, 6, 7, 8, 11, 9, 12, 13, 84, 86, 87, 88, 85, 15, 10, 16]⟩
def a74 : CodeF := (kSeq (kReg (sS 2 (xK nils) (sS 3 (ki 0) (sS 4 (ki 0) sEnd))))
 (kSeq (kRegC (fun k => (sV (oBin .lss .no (xT 1) (ki 0)) (sG (xL 0) false (sV (oMov (xT 1))) (sG (xL 1) false (sV (oBin .gtr .no (xL 0) (ki 1048576))) (sV (oPick (xL 2) (xK (bool true)) (xL 0)) k))))) (xL 0) (kSeq (kReg (sS 2 (xK nils) (sS 3 (ki 0) (sS 4 (ki 1) sEnd))))
 kRet)
 kSkip)
 (kSeq (kReg (sS 5 (xK nils) sEnd))
 (kSeq (kReg (sC (cFn 72) [(xT 0)] (sS 6 (xL 0) sEnd)))
 (kSeq (kBlock 0 (kLoop (kSeq (kRegC (fun k => (sV (oLenL (xT 5)) (sV (oBin .lss .no (xL 0) (xT 1)) k))) (xL 0) kSkip
 (kExit 0))
 (kBlock 1 (kSeq (kReg (sV (oLenL (xT 5)) (sV (oBin .sub .no (xT 1) (xL 0)) (sV (oMm false (xL 0) [(ki 128)]) (sS 8 (xL 0) sEnd)))))
 (kSeq (kReg (sC (cFn 101) [(xT 6)] (sS 17 (xL 0) sEnd)))
 (kSeq (kReg (sC (cFn 75) [(xT 6), (ki 1)] (sS 7 (xL 0) sEnd)))
 (kSeq (kRegC (fun k => (sC (cFn 78) [(xT 6)] (sV (oBin .neq .no (xL 0) (ki 0)) (sG (xL 0) false (sV (oMov (xT 7))) (sG (xL 1) false (sV (oIaddr 1 (xL 0) (ki 0))) (sG (xL 2) false (sV (oLoad (xL 0))) (sG (xL 3) false (sV (oBin .gtr .no (xL 0) (xK (int .u8 (.ofNat 64))))) (sV (oPick (xL 4) (xK (bool true)) (xL 0)) k)))))))) (xL 0) (kSeq (kReg (sS 2 (xK nils) (sS 3 (ki 0) (sS 4 (ki 20) sEnd))))
 kRet)
 kSkip)
 (kSeq (kDraw [(.v (oMov (xT 6)), none), (.v (oMov (xT 7)), none), (.v (oIaddr 1 (xL 0) (ki 0)), none), (.v (oLoad (xL 0)), none), (.v (oConv .i64 (xL 0)), none), (.v (oMov (xT 8)), none), (.c (cFn 138) [(xL 1), (xL 0)], none), (.c (cFn 75) [(xL 6), (xL 0)], none), (.v (oMov (xT 7)), none), (.v (oIaddr 1 (xL 0) (ki 0)), none), (.v (oLoad (xL 0)), none), (.v (oConv .i64 (xL 0)), none), (.v (oMov (xT 8)), none), (.c (cFn 137) [(xL 5), (xL 1), (xL 0)], none), (.v (oMov (xL 0)), none), (.v (oExt 0 (xL 0)), none), (.v (oExt 1 (xL 1)), none), (.v (oMov (xL 1)), none), (.v (oMov (xL 1)), none)] 0 [none, none, none, none, none, none, none, none, none, (some 1), (some 0), none, none, none, none, none, none, none, none] [(8, 12), (8, 11)])
 (kSeq (kSeq (kDraw [(.v (oMov (xT 6)), none), (.c (cFn 78) [(xL 0)], none), (.v (oBin .neq .no (xL 0) (ki 0)), none), (.v (oMov (xL 0)), none), (.v (oMov (xT 10)), (some ((xL 0), false))), (.v (oBin .neq .no (xL 0) (ki 0)), (some ((xL 1), false))), (.v (oPick (xL 2) (xK (bool true)) (xL 0)), none), (.v (oMov (xL 0)), none), (.v (oMov (xT 9)), (some ((xL 0), false))), (.c (cFn 139) [(xL 0)], (some ((xL 1), false))), (.v (oMov (xT 7)), (some ((xL 2), false))), (.v (oIaddr 1 (xL 0) (ki 0)), (some ((xL 3), false))), (.v (oLoad (xL 0)), (some ((xL 4), false))), (.v (oConv .i64 (xL 0)), (some ((xL 5), false))), (.v (oBin .neq .no (xL 4) (xL 0)), (some ((xL 6), false))), (.v (oPick (xL 7) (xK (bool true)) (xL 0)), none), (.v (oMov (xL 0)), none), (.v (oMov (xT 9)), (some ((xL 0), false))), (.c (cFn 140) [(xL 0)], (some ((xL 1), false))), (.v (oBin .neq .no (xL 0) (xK (int .u64 (.ofNat 0)))), (some ((xL 2), false))), (.v (oPick (xL 3) (xK (bool true)) (xL 0)), none)] 0 [none, none, none, none, none, none, none, none, none, none, none, (some 0), none, none, none, none, none, none, none] [(8, 11)])
 (kCond (xT 11) (kSeq (kReg (sS 2 (xK nils) (sS 3 (ki 0) (sS 4 (ki 20) sEnd))))
 kRet)
 kSkip))
 (kSeq (kReg (sS 15 (xT 9) (sV (oLenL (xT 15)) (sS 12 (xL 0) (sS 13 (ki 0) sEnd)))))
 (kBlock 2 (kLoop (kSeq (kReg (sV (oBin .lss .no (xT 13) (xT 12)) (sS 14 (xL 0) sEnd)))
 (kSeq (kCond (xT 14) kSkip
 (kExit 2))
 (kSeq (kBlock 3 (kSeq (kReg (sV (oIaddr 1 (xT 15) (xT 13)) (sV (oLoad (xL 0)) (sS 16 (xL 0) sEnd))))
 (kSeq (kReg (sV (oConv .u64 (xT 17)) (sV (oBin .add .no (xL 0) (xT 16)) (sV (oConv .i64 (xL 0)) (sS 18 (xL 0) sEnd)))))
 (kSeq (kRegC (fun k => (sV (oBin .lss .no (xT 18) (xT 17)) k)) (xL 0) (kSeq (kReg (sS 2 (xK nils) (sS 3 (ki 0) (sS 4 (ki 20) sEnd))))
 kRet)
 kSkip)
 (kReg (sV (oMov (xT 5)) (sH (oBsl 2 1 1 [(int .i64 (.ofNat 0))] [(0, 1, (xT 18))]) (sH (oApp 2 1 (xL 1) (xL 0)) (sS 5 (xL 0) sEnd)))))))))
 (kReg (sV (oBin .add .no (xT 13) (ki 1)) (sS 13 (xL 0) sEnd)))))))))))))))))))
 (kSeq (kReg (sC (cFn 110) [(xT 5)] (sV (oLenL (xT 0)) (sC (cFn 76) [(xT 6)] (sV (oBin .sub .no (xL 1) (xL 0)) (sS 2 (xL 3) (sS 3 (xL 0) (sS 4 (ki 0) sEnd))))))))
 kRet))))))
theorem t74 : FF d74 Tryz.f74 a74 [(.t 2), (.t 3), (.t 4)] := ff Tryz.func74 (by kernel_rfl)
def x74 : XFn := .go a74 2 pd17 [(.t 2), (.t 3), (.t 4)]
def d75 : FD := ⟨75, 2, [4, 3]⟩
def a75 : CodeF := (kSeq (kReg (sH (oBox 3 1 (xT 1)) (sS 3 (xL 0) (sS 2 (xK nils) sEnd))))
 (kSeq (kReg (sV (oMkfn 142 [] [(xT 3)]) (sC (cFn 141) [(xT 0), (xL 0)] (sS 2 (xL 0) sEnd))))
 kRet))
theorem t75 : FF d75 Tryz.f75 a75 [(.t 2)] := ff Tryz.func75 (by kernel_rfl)
def x75 : XFn := .go a75 2 pd2 [(.t 2)]
def d76 : FD := ⟨76, 1, [2]⟩
def a76 : CodeF := (kSeq (kReg (sS 1 (ki 0) sEnd))
 (kSeq (kRegC (fun k => (sV (oBin .eql .ptr (xT 0) (xK nilptr)) k)) (xL 0) (kSeq (kReg (sS 1 (ki 0) sEnd))
 kRet)
 kSkip)
 (kSeq (kDraw [(.v (oMov (xT 0)), none), (.v (oNilc (xL 0)), none), (.v (oFaddr 0 (xL 0)), none), (.v (oLoad (xL 0)), none), (.v (oLenL (xL 0)), none), (.v (oMov (xT 0)), none), (.v (oNilc (xL 0)), none), (.v (oFaddr 1 (xL 0)), none), (.v (oLoad (xL 0)), none), (.v (oBin .sub .no (xL 4) (xL 0)), none), (.v (oMov (xL 0)), none)] 0 [none, (some 0)] [])
 kRet)))
theorem t76 : FF d76 Tryz.f76 a76 [(.t 1)] := ff Tryz.func76 (by kernel_rfl)
def x76 : XFn := .go a76 1 pd1 [(.t 1)]
end
end Go.Proofs.YthaaihgllpehbaaGreatDoor
