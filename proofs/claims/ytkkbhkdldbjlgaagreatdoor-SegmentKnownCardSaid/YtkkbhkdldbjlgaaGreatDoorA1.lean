import Derived.Test.YtkkbhkdldbjlgaaGreatDoorP
import Derived.Test.YtkkbhkdldbjlgaaGreatDoorProg
import Derived.KernelRfl
/- The functions of the program as the interpreter has them; each is the program's, by the kernel. -/
set_option maxRecDepth 1000000
namespace Go.Proofs.YtkkbhkdldbjlgaaGreatDoor
open Go Go.Ai AVal
noncomputable section
def d66 : FD := ⟨66, 1, [2]⟩
def a66 : CodeF := (kSeq (kReg (sS 1 (ki 0) sEnd))
 (kSeq (kRegC (fun k => (sV (oBin .eql .ptr (xT 0) (xK nilptr)) k)) (xL 0) (kSeq (kReg (sS 1 (ki 20) sEnd))
 kRet)
 kSkip)
 (kSeq (kReg (sV (oNilc (xT 0)) (sV (oFaddr 2 (xL 0)) (sV (oLoad (xL 0)) (sS 1 (xL 0) sEnd)))))
 kRet)))
theorem t66 : FF d66 Tryz.f66 a66 [(.t 1)] := ff Tryz.func66 (by kernel_rfl)
def x66 : XFn := .go a66 1 pd1 [(.t 1)]
def d67 : FD := ⟨67, 1, [2, 1, 3, 10, 11, 12, 4]⟩
def a67 : CodeF := (kSeq (kReg (sH (oBox 29 1 (xT 0)) (sS 2 (xL 0) (sH (oAlloc 29 1 [nils]) (sS 1 (xL 0) sEnd)))))
 (kSeq (kReg (sV (oFaddr 0 (xT 2)) (sV (oLoad (xL 0)) (sC (cFn 132) [(xL 0)] (sC (cFn 131) [(xL 0)] (sS 3 (xL 0) sEnd))))))
 (kSeq (kSeq (kReg (sV (oLenL (xT 3)) (sS 4 (xL 0) (sS 5 (ki 0) sEnd))))
 (kBlock 0 (kLoop (kSeq (kReg (sV (oBin .lss .no (xT 5) (xT 4)) (sS 6 (xL 0) sEnd)))
 (kSeq (kCond (xT 6) kSkip
 (kExit 0))
 (kSeq (kBlock 1 (kSeq (kReg (sS 7 (xT 5) sEnd))
 (kReg (sV (oIaddr 7 (xT 3) (xT 7)) (sV (oFaddr 2 (xL 0)) (sV (oLoad (xL 0)) (sC (cFn 45) [(xL 0)] (sC (cFn 37) [(xL 0)] (sV (oIaddr 7 (xT 3) (xT 7)) (sV (oFaddr 2 (xL 0)) (sH (oStore 1 (xL 0) (xL 2)) sEnd)))))))))))
 (kReg (sV (oBin .add .no (xT 5) (ki 1)) (sS 5 (xL 0) sEnd)))))))))
 (kSeq (kReg (sV (oBuild [nils] [(0, 1, (xT 3))]) (sH (oStore 1 (xT 1) (xL 0)) sEnd)))
 kRet))))
theorem t67 : FF d67 Tryz.f67 a67 [(.cell 1 (some 1))] := ff Tryz.func67 (by kernel_rfl)
def x67 : XFn := .go a67 1 pd7 [(.cell 1 (some 1))]
def d68 : FD := ⟨68, 2, [4]⟩
def a68 : CodeF := (kSeq (kReg (sS 2 (xK nilptr) sEnd))
 (kSeq (kRegC (fun k => (sV (oBin .neq .no (xT 1) (ki 0)) k)) (xL 0) (kReg (sV (oBuild [(int .i64 (.ofNat 0))] [(0, 1, (xT 1))]) (sV (oMkif 109 (xL 0)) (sPan (xL 0)))))
 kSkip)
 (kSeq (kReg (sS 2 (xT 0) sEnd))
 kRet)))
theorem t68 : FF d68 Tryz.f68 a68 [(.t 2)] := ff Tryz.func68 (by kernel_rfl)
def x68 : XFn := .go a68 2 pd1 [(.t 2)]
def d69 : FD := ⟨69, 1, [2, 3, 4, 5, 34, 35, 36, 6, 8, 7, 9, 92, 93, 94, 10, 11, 116, 117, 118, 129, 130, 131, 128, 14, 135, 136, 137, 12, 16]⟩
def a69 : CodeF := (kSeq (kReg (sH (oAlloc 73 1 [nilptr]) (sS 1 (xL 0) (sH (oAlloc 34 1 [(int .i64 (.ofNat 0))]) (sS 2 (xL 0) sEnd)))))
 (kSeq (kReg (sV (oMkfn 133 [] [(xT 1), (xT 2)]) (sDef (xL 0) [] sEnd)))
 (kSeq (kReg (sC (cFn 60) [(xT 0)] (sS 3 (xL 0) sEnd)))
 (kSeq (kReg (sC (cFn 61) [(xT 3), (ki 16384)] (sV (oBuild [nils, (int .i64 (.ofNat 0))] [(1, 1, (xL 0))]) (sH (oBox 177 2 (xL 0)) (sH (oStore 1 (xT 1) (xL 0)) sEnd)))))
 (kSeq (kReg (sV (oLoad (xT 1)) (sV (oNilc (xL 0)) (sV (oFaddr 1 (xL 0)) (sV (oLoad (xL 0)) (sC (cFn 61) [(xT 3), (xL 0)] (sS 4 (xL 0) sEnd)))))))
 (kSeq (kReg (sC (cFn 134) [(xT 3), (xK (bool true))] sEnd))
 (kSeq (kDraw [(.v (oMov (xT 4)), none), (.h (oMksl 3 1 [(int .i64 (.ofNat 0))] (xL 0) (xL 0)), none), (.v (oMov (ki 0)), none), (.v (oMov (xL 1)), none)] 0 [none, none, none, none, none, none, none, none, (some 1), none, (some 0), none, none, none, none, none, none, none, none, none, none, none, none, none, none, none, none, none, none, none] [])
 (kSeq (kSeq (kReg (sS 5 (xT 4) (sS 6 (ki 0) sEnd)))
 (kBlock 0 (kLoop (kSeq (kReg (sV (oBin .lss .no (xT 6) (xT 5)) (sS 7 (xL 0) sEnd)))
 (kSeq (kCond (xT 7) kSkip
 (kExit 0))
 (kSeq (kBlock 1 (kSeq (kReg (sS 9 (xT 6) sEnd))
 (kSeq (kReg (sC (cFn 61) [(xT 3), (ki 16384)] (sV (oBin .add .no (xT 8) (xL 0)) (sV (oBuild [(int .i64 (.ofNat 0)), (int .i64 (.ofNat 0)), nils] [(0, 1, (xT 8)), (1, 1, (xL 0))]) (sH (oAlloc 175 3 [(int .i64 (.ofNat 0)), (int .i64 (.ofNat 0)), nils]) (sS 11 (xL 0) (sH (oStore 3 (xT 11) (xL 1)) sEnd)))))))
 (kSeq (kReg (sV (oLenL (xT 0)) (sC (cFn 61) [(xT 3), (xL 0)] (sV (oIaddr 1 (xT 10) (xT 9)) (sH (oStore 1 (xL 0) (xL 1)) sEnd)))))
 (kSeq (kDraw [(.v (oMov (xT 3)), none), (.v (oFaddr 1 (xT 11)), none), (.v (oLoad (xL 0)), none), (.v (oFaddr 0 (xT 11)), none), (.v (oLoad (xL 0)), none), (.v (oBin .gtr .no (xL 2) (xL 0)), none), (.v (oMov (xL 0)), none), (.v (oFaddr 1 (xT 11)), (some ((xL 0), true))), (.v (oLoad (xL 0)), (some ((xL 1), true))), (.v (oLoad (xT 1)), (some ((xL 2), true))), (.v (oNilc (xL 0)), (some ((xL 3), true))), (.v (oFaddr 1 (xL 0)), (some ((xL 4), true))), (.v (oLoad (xL 0)), (some ((xL 5), true))), (.v (oBin .leq .no (xL 4) (xL 0)), (some ((xL 6), true))), (.v (oPick (xL 7) (xL 0) (xK (bool false))), none), (.c (cFn 134) [(xL 14), (xL 0)], none)] 0 [none, none, none, none, none, none, none, none, none, none, none, none, none, none, none, none, none, none, none, none, none, none, none, none, none, none, none, none, none, none] [])
 (kSeq (kDraw [(.v (oLoad (xT 1)), none), (.v (oLoad (xT 1)), none), (.v (oNilc (xL 0)), none), (.v (oFaddr 0 (xL 0)), none), (.v (oLoad (xL 0)), none), (.v (oLoadN 3 (xT 11)), none), (.h (oBsl 175 3 1 [(int .i64 (.ofNat 0)), (int .i64 (.ofNat 0)), nils] [(0, 3, (xL 0))]), none), (.h (oApp 175 3 (xL 2) (xL 0)), none), (.v (oNilc (xL 7)), none), (.v (oFaddr 0 (xL 0)), none), (.h (oStore 1 (xL 0) (xL 2)), none)] 0 [none, none, none, none, none, none, none, none, none, none, none, none, none, none, none, none, none, none, none, none, none, none, none, none, none, none, none, none, none, none] [(10, 4), (10, 3), (9, 4), (6, 4)])
 (kReg (sV (oFaddr 1 (xT 11)) (sV (oLoad (xL 0)) (sS 8 (xL 0) sEnd))))))))))
 (kReg (sV (oBin .add .no (xT 6) (ki 1)) (sS 6 (xL 0) sEnd)))))))))
 (kSeq (kReg (sV (oLoad (xT 1)) (sV (oNilc (xL 0)) (sV (oFaddr 1 (xL 0)) (sV (oLoad (xL 0)) (sV (oBin .eql .no (xT 8) (xL 0)) (sC (cFn 134) [(xT 3), (xL 0)] sEnd)))))))
 (kSeq (kSeq (kReg (sV (oLoad (xT 1)) (sV (oNilc (xL 0)) (sV (oFaddr 0 (xL 0)) (sV (oLoad (xL 0)) (sV (oLenL (xL 0)) (sS 12 (xL 0) (sS 13 (ki 0) sEnd))))))))
 (kBlock 2 (kLoop (kSeq (kReg (sV (oBin .lss .no (xT 13) (xT 12)) (sS 14 (xL 0) sEnd)))
 (kSeq (kCond (xT 14) kSkip
 (kExit 2))
 (kSeq (kBlock 3 (kSeq (kReg (sS 15 (xT 13) sEnd))
 (kSeq (kReg (sV (oLoad (xT 1)) (sV (oNilc (xL 0)) (sV (oFaddr 0 (xL 0)) (sV (oLoad (xL 0)) (sV (oIaddr 3 (xL 0) (xT 15)) (sS 16 (xL 0) sEnd)))))))
 (kSeq (kReg (sV (oIaddr 1 (xT 10) (xT 15)) (sV (oLoad (xL 0)) (sC (cFn 63) [(xT 3), (xL 0)] (sV (oNilc (xT 16)) (sV (oFaddr 2 (xL 0)) (sH (oStore 1 (xL 0) (xL 2)) sEnd)))))))
 (kSeq (kReg (sC (cFn 134) [(xT 3), (xK (bool true))] sEnd))
 (kSeq (kReg (sV (oNilc (xT 16)) (sV (oLoadN 3 (xL 0)) (sC (cFn 85) [(xL 0)] (sS 17 (xL 0) sEnd)))))
 (kBlock 4 (kRf 8796680213310 [18, 19] (xT 17)))))))))
 (kReg (sV (oBin .add .no (xT 13) (ki 1)) (sS 13 (xL 0) sEnd)))))))))
 (kSeq (kReg (sC (cFn 64) [(xT 3)] (sV (oBin .eql .no (xL 0) (ki 0)) (sC (cFn 134) [(xT 3), (xL 0)] sEnd))))
 (kSeq (kReg (sH (oAlloc 159 1 [nils]) (sS 28 (xL 0) sEnd)))
 (kSeq (kSeq (kReg (sV (oLoad (xT 1)) (sV (oNilc (xL 0)) (sV (oFaddr 0 (xL 0)) (sV (oLoad (xL 0)) (sS 23 (xL 0) (sV (oLenL (xT 23)) (sS 20 (xL 0) (sS 21 (ki 0) sEnd)))))))))
 (kBlock 6 (kLoop (kSeq (kReg (sV (oBin .lss .no (xT 21) (xT 20)) (sS 22 (xL 0) sEnd)))
 (kSeq (kCond (xT 22) kSkip
 (kExit 6))
 (kSeq (kBlock 7 (kSeq (kReg (sV (oIaddr 3 (xT 23) (xT 21)) (sV (oLoadN 3 (xL 0)) (sH (oAlloc 175 3 [(int .i64 (.ofNat 0)), (int .i64 (.ofNat 0)), nils]) (sS 24 (xL 0) (sH (oStore 3 (xT 24) (xL 1)) sEnd))))))
 (kSeq (kReg (sV (oLoadN 3 (xT 24)) (sC (cFn 85) [(xL 0)] (sS 25 (xL 0) sEnd))))
 (kBlock 8 (kRf 8796680223334 [26, 27] (xT 25))))))
 (kReg (sV (oBin .add .no (xT 21) (ki 1)) (sS 21 (xL 0) sEnd)))))))))
 (kSeq (kReg (sV (oLoad (xT 28)) (sC (cFn 74) [(xL 0)] (sC (cFn 135) [(xL 0), (xT 0)] (sC (cFn 134) [(xT 3), (xL 0)] sEnd)))))
 (kSeq (kReg (sV (oLoad (xT 1)) (sH (oStore 1 (xT 1) (xL 0)) (sH (oStore 1 (xT 2) (ki 0)) sEnd))))
 kRet)))))))))))))))
theorem t69 : FF d69 Tryz.f69 a69 [(.cell 1 none), (.cell 2 none)] := ff Tryz.func69 (by kernel_rfl)
def x69 : XFn := .go a69 1 pd29 [(.cell 1 none), (.cell 2 none)]
def r69x0 : CodeF × CodeF := (kSkip,
 (kBlock 5 kSkip))
theorem u69x0 : RfFact Tryz.prog d69 Tryz.f69 8796680213310 r69x0 := ⟨Tryz.func69, by kernel_rfl⟩
def r69x1 : CodeF × CodeF := ((kReg (sS 29 (xT 27) sEnd)),
 (kBlock 9 (kReg (sV (oLoad (xT 28)) (sH (oBsl 53 1 1 [nils] [(0, 1, (xT 29))]) (sH (oApp 53 1 (xL 1) (xL 0)) (sH (oStore 1 (xT 28) (xL 0)) sEnd)))))))
theorem u69x1 : RfFact Tryz.prog d69 Tryz.f69 8796680223334 r69x1 := ⟨Tryz.func69, by kernel_rfl⟩
def d70 : FD := ⟨70, 1, [2]⟩
def a70 : CodeF := (kSeq (kReg (sS 1 (ki 0) sEnd))
 (kSeq (kRegC (fun k => (sV (oBin .eql .ptr (xT 0) (xK nilptr)) k)) (xL 0) (kSeq (kReg (sS 1 (ki 0) sEnd))
 kRet)
 kSkip)
 (kSeq (kReg (sV (oNilc (xT 0)) (sV (oFaddr 1 (xL 0)) (sV (oLoad (xL 0)) (sS 1 (xL 0) sEnd)))))
 kRet)))
theorem t70 : FF d70 Tryz.f70 a70 [(.t 1)] := ff Tryz.func70 (by kernel_rfl)
def x70 : XFn := .go a70 1 pd1 [(.t 1)]
def d71 : FD := ⟨71, 3, [6, 3, 33, 34, 35, 9, 7, 10, 8, 69, 13, 11, 100]⟩
def a71 : CodeF := (kSeq (kReg (sH (oBox 33 7 (xT 0)) (sS 4 (xL 0) (sH (oAlloc 88 6 [nilptr, nils, nils, nilptr, nilptr, nilptr]) (sS 3 (xL 0) sEnd)))))
 (kSeq (kRegC (fun k => (sV (oFaddr 1 (xT 4)) (sV (oLoad (xL 0)) (sV (oBin .eql .no (xL 0) (ki 1)) (sG (xL 0) false (sV (oFaddr 1 (xT 4))) (sG (xL 1) false (sV (oLoad (xL 0))) (sG (xL 2) false (sV (oBin .eql .no (xL 0) (ki 2))) (sV (oPick (xL 3) (xK (bool true)) (xL 0)) k)))))))) (xL 0) (kSeq (kReg (sC (cVal (xT 2)) [] (sC (cFn 137) [(xL 0)] (sV (oExt 0 (xL 0)) (sV (oExt 1 (xL 1)) (sC (cFn 136) [(xL 1), (xL 0)] (sV (oFaddr 0 (xT 3)) (sH (oStore 1 (xL 0) (xL 1)) sEnd))))))))
 (kSeq (kReg (sC (cVal (xT 2)) [] (sS 9 (xL 0) sEnd)))
 (kSeq (kReg (sS 11 (xK (int .u64 (.ofNat 0))) sEnd))
 (kSeq (kReg (sV (oFaddr 0 (xT 3)) (sV (oLoad (xL 0)) (sC (cFn 41) [(xL 0)] (sS 5 (xL 0) (sS 6 (ki 0) sEnd))))))
 (kBlock 0 (kLoop (kSeq (kReg (sV (oBin .lss .no (xT 6) (xT 5)) (sS 7 (xL 0) sEnd)))
 (kSeq (kCond (xT 7) kSkip
 (kExit 0))
 (kSeq (kBlock 1 (kSeq (kReg (sS 8 (xT 6) sEnd))
 (kSeq (kReg (sV (oFaddr 0 (xT 3)) (sV (oLoad (xL 0)) (sC (cFn 138) [(xL 0), (xT 8)] (sS 10 (xL 0) sEnd)))))
 (kSeq (kRegC (fun k => (sV (oBin .lss .no (xT 10) (xT 11)) (sG (xL 0) false (sV (oMov (xT 10))) (sG (xL 1) false (sV (oMov (xT 9))) (sG (xL 2) false (sV (oLenL (xL 0))) (sG (xL 3) false (sV (oConv .u64 (xL 0))) (sG (xL 4) false (sV (oBin .gtr .no (xL 3) (xL 0))) (sV (oPick (xL 5) (xK (bool true)) (xL 0)) k)))))))) (xL 0) (kReg (sV (oBuild [(int .i64 (.ofNat 0))] [(0, 1, (ki 20))]) (sV (oMkif 109 (xL 0)) (sPan (xL 0)))))
 kSkip)
 (kSeq (kDraw [(.v (oFaddr 1 (xT 3)), none), (.v (oLoad (xL 0)), none), (.v (oMov (xT 9)), none), (.v (oMov (xT 11)), none), (.v (oMov (xT 10)), none), (.v (oSlc 1 (xL 2) (some (xL 1)) (some (xL 0)) none), none), (.c (cFn 140) [(xL 0)], none), (.v (oExt 0 (xL 0)), none), (.v (oExt 1 (xL 1)), none), (.c (cFn 139) [(xL 1), (xL 0)], none), (.h (oBsl 62 1 1 [nilptr] [(0, 1, (xL 0))]), none), (.h (oApp 62 1 (xL 9) (xL 0)), none), (.v (oFaddr 1 (xT 3)), none), (.h (oStore 1 (xL 0) (xL 1)), none)] 0 [none, none, none, none, none, none, none, none, none, none, none, none, none, none, none, none] [(12, 7), (12, 4), (12, 3)])
 (kReg (sS 11 (xT 10) sEnd)))))))
 (kReg (sV (oBin .add .no (xT 6) (ki 1)) (sS 6 (xL 0) sEnd))))))))))))
 kSkip)
 (kSeq (kSeq (kReg (sV (oFaddr 1 (xT 4)) (sV (oLoad (xL 0)) (sS 12 (xL 0) sEnd))))
 (kBlock 2 (kRegC (fun k => (sV (oBin .eql .no (xT 12) (ki 1)) k)) (xL 0) (kSeq (kReg (sC (cVal (xT 2)) [] (sC (cFn 62) [(xL 0), (xT 1)] (sV (oExt 0 (xL 0)) (sV (oExt 1 (xL 1)) (sV (oExt 2 (xL 2)) (sS 14 (xL 2) (sS 13 (xL 0) sEnd))))))))
 (kReg (sC (cFn 65) [(xT 14), (xT 13)] (sV (oFaddr 2 (xT 3)) (sH (oStore 1 (xL 0) (xL 1)) sEnd)))))
 (kRegC (fun k => (sV (oBin .eql .no (xT 12) (ki 2)) k)) (xL 0) (kReg (sC (cVal (xT 2)) [] (sC (cFn 142) [(xL 0)] (sV (oExt 0 (xL 0)) (sV (oExt 1 (xL 1)) (sC (cFn 141) [(xL 1), (xL 0)] (sV (oFaddr 3 (xT 3)) (sH (oStore 1 (xL 0) (xL 1)) sEnd))))))))
 (kSeq (kRegC (fun k => (sV (oBin .eql .no (xT 12) (ki 3)) (sS 15 (xL 0) k))) (xT 15) kSkip
 (kReg (sV (oBin .eql .no (xT 12) (ki 4)) (sS 15 (xL 0) sEnd))))
 (kCond (xT 15) (kSeq (kReg (sC (cVal (xT 2)) [] (sC (cFn 144) [(xL 0)] (sV (oExt 0 (xL 0)) (sV (oExt 1 (xL 1)) (sC (cFn 143) [(xL 1), (xL 0)] (sV (oFaddr 4 (xT 3)) (sH (oStore 1 (xL 0) (xL 1)) sEnd))))))))
 (kReg (sC (cVal (xT 2)) [] (sC (cFn 146) [(xL 0)] (sV (oExt 0 (xL 0)) (sV (oExt 1 (xL 1)) (sC (cFn 145) [(xL 1), (xL 0)] (sV (oFaddr 5 (xT 3)) (sH (oStore 1 (xL 0) (xL 1)) sEnd)))))))))
 (kReg (sC (cVal (xT 2)) [] (sC (cFn 146) [(xL 0)] (sV (oExt 0 (xL 0)) (sV (oExt 1 (xL 1)) (sC (cFn 145) [(xL 1), (xL 0)] (sV (oFaddr 5 (xT 3)) (sH (oStore 1 (xL 0) (xL 1)) sEnd))))))))))))))
 (kSeq (kReg (sV (oLoadN 6 (xT 3)) (sH (oStore 6 (xT 3) (xL 0)) sEnd)))
 kRet))))
theorem t71 : FF d71 Tryz.f71 a71 [(.cell 3 (some 6))] := ff Tryz.func71 (by kernel_rfl)
def x71 : XFn := .go a71 3 pd13 [(.cell 3 (some 6))]
def d72 : FD := ⟨72, 2, [4]⟩
def a72 : CodeF := (kSeq (kReg (sS 2 (xK nils) sEnd))
 (kSeq (kReg (sC (cFn 147) [(xT 0), (xT 1), (xK (.func (.func 148) [] []))] (sS 2 (xL 0) sEnd)))
 kRet))
theorem t72 : FF d72 Tryz.f72 a72 [(.t 2)] := ff Tryz.func72 (by kernel_rfl)
def x72 : XFn := .go a72 2 pd1 [(.t 2)]
def d73 : FD := ⟨73, 1, [2, 11, 12, 4, 19, 20, 21, 18, 5, 8, 7, 6, 3, 9]⟩
def a73 : CodeF := (kSeq (kReg (sS 1 (xK nils) sEnd))
 (kSeq (kReg (sH (oAlloc 25 1 [nils]) (sS 13 (xL 0) sEnd)))
 (kSeq (kSeq (kReg (sC (cFn 149) [(xT 0), (ki 128)] (sS 2 (xL 0) sEnd)))
 (kBlock 0 (kRf 33556794 [3] (xT 2))))
 (kSeq (kReg (sV (oLoad (xT 13)) (sC (cFn 27) [(xL 0)] (sS 1 (xL 0) sEnd))))
 kRet))))
theorem t73 : FF d73 Tryz.f73 a73 [(.t 1)] := ff Tryz.func73 (by kernel_rfl)
def x73 : XFn := .go a73 1 pd14 [(.t 1)]
def r73x0 : CodeF × CodeF := ((kReg (sS 4 (xT 3) sEnd)),
 (kBlock 1 (kSeq (kReg (sC (cFn 150) [(xT 4)] (sS 9 (xL 0) sEnd)))
 (kSeq (kReg (sV (oLenL (xT 4)) (sH (oMksl 52 1 [(int .u64 (.ofNat 0))] (xL 0) (xL 0)) (sS 12 (xL 0) sEnd))))
 (kSeq (kSeq (kReg (sS 8 (xT 4) (sV (oLenL (xT 8)) (sS 5 (xL 0) (sS 6 (ki 0) sEnd)))))
 (kBlock 2 (kLoop (kSeq (kReg (sV (oBin .lss .no (xT 6) (xT 5)) (sS 7 (xL 0) sEnd)))
 (kSeq (kCond (xT 7) kSkip
 (kExit 2))
 (kSeq (kBlock 3 (kSeq (kReg (sV (oIaddr 1 (xT 8) (xT 6)) (sV (oLoad (xL 0)) (sS 11 (xT 6) (sS 10 (xL 0) sEnd)))))
 (kReg (sV (oConv .u64 (xT 10)) (sV (oConv .u64 (xT 9)) (sV (oBin .sub .no (xL 1) (xL 0)) (sV (oIaddr 1 (xT 12) (xT 11)) (sH (oStore 1 (xL 0) (xL 1)) sEnd))))))))
 (kReg (sV (oBin .add .no (xT 6) (ki 1)) (sS 6 (xL 0) sEnd)))))))))
 (kSeq (kReg (sC (cFn 127) [(xT 12)] (sS 14 (xL 0) sEnd)))
 (kSeq (kReg (sV (oLoad (xT 13)) (sC (cFn 151) [(xL 0), (xT 9)] (sH (oStore 1 (xT 13) (xL 0)) sEnd))))
 (kReg (sV (oLoad (xT 13)) (sV (oConv .u8 (xT 14)) (sH (oBsl 5 1 1 [(int .u8 (.ofNat 0))] [(0, 1, (xL 0))]) (sH (oApp 5 1 (xL 2) (xL 0)) (sC (cFn 152) [(xT 12), (xT 14)] (sH (oApp 5 1 (xL 1) (xL 0)) (sH (oStore 1 (xT 13) (xL 0)) sEnd)))))))))))))))
theorem u73x0 : RfFact Tryz.prog d73 Tryz.f73 33556794 r73x0 := ⟨Tryz.func73, by kernel_rfl⟩
def d74 : FD := ⟨74, 1, [2, 4, 3, 26, 27, 28, 25, 7, 5, 47, 48, 49, 46, 9]⟩
def a74 : CodeF := (kSeq (kReg (sS 1 (xK nils) sEnd))
 (kSeq (kReg (sC (cFn 153) [(xT 0)] (sV (oExt 0 (xL 0)) (sV (oExt 1 (xL 1)) (sS 3 (xL 1) (sS 2 (xL 0) sEnd))))))
 (kSeq (kRegC (fun k => (sV (oUn .not (xT 2)) k)) (xL 0) (kSeq (kReg (sS 1 (xK nils) sEnd))
 kRet)
 kSkip)
 (kSeq (kReg (sV (oLenL (xT 0)) (sV (oConv .u64 (xL 0)) (sC (cFn 72) [(xK nils), (xL 0)] (sV (oLenL (xT 3)) (sV (oConv .u64 (xL 0)) (sC (cFn 72) [(xL 2), (xL 0)] (sS 9 (xL 0) sEnd))))))))
 (kSeq (kSeq (kReg (sS 7 (xT 3) (sV (oLenL (xT 7)) (sS 4 (xL 0) (sS 5 (ki 0) sEnd)))))
 (kBlock 0 (kLoop (kSeq (kReg (sV (oBin .lss .no (xT 5) (xT 4)) (sS 6 (xL 0) sEnd)))
 (kSeq (kCond (xT 6) kSkip
 (kExit 0))
 (kSeq (kBlock 1 (kSeq (kReg (sV (oIaddr 3 (xT 7) (xT 5)) (sV (oLoadN 3 (xL 0)) (sH (oAlloc 175 3 [(int .i64 (.ofNat 0)), (int .i64 (.ofNat 0)), nils]) (sS 8 (xL 0) (sH (oStore 3 (xT 8) (xL 1)) sEnd))))))
 (kDraw [(.v (oMov (xT 9)), none), (.v (oFaddr 1 (xT 8)), none), (.v (oLoad (xL 0)), none), (.v (oFaddr 0 (xT 8)), none), (.v (oLoad (xL 0)), none), (.v (oBin .sub .no (xL 2) (xL 0)), none), (.v (oConv .u64 (xL 0)), none), (.c (cFn 72) [(xK nils), (xL 0)], none), (.v (oFaddr 2 (xT 8)), none), (.v (oLoad (xL 0)), none), (.v (oLenL (xL 0)), none), (.v (oConv .u64 (xL 0)), none), (.c (cFn 72) [(xL 4), (xL 0)], none), (.h (oApp 5 1 (xL 12) (xL 0)), none), (.v (oMov (xL 0)), none)] 0 [none, none, none, none, none, none, none, none, none, (some 0), none, none, none, none, none] [(5, 7)])))
 (kReg (sV (oBin .add .no (xT 5) (ki 1)) (sS 5 (xL 0) sEnd)))))))))
 (kSeq (kSeq (kReg (sS 13 (xT 3) (sV (oLenL (xT 13)) (sS 10 (xL 0) (sS 11 (ki 0) sEnd)))))
 (kBlock 2 (kLoop (kSeq (kReg (sV (oBin .lss .no (xT 11) (xT 10)) (sS 12 (xL 0) sEnd)))
 (kSeq (kCond (xT 12) kSkip
 (kExit 2))
 (kSeq (kBlock 3 (kSeq (kReg (sV (oIaddr 3 (xT 13) (xT 11)) (sV (oLoadN 3 (xL 0)) (sH (oAlloc 175 3 [(int .i64 (.ofNat 0)), (int .i64 (.ofNat 0)), nils]) (sS 14 (xL 0) (sH (oStore 3 (xT 14) (xL 1)) sEnd))))))
 (kReg (sV (oMov (xT 9)) (sV (oFaddr 2 (xT 14)) (sV (oLoad (xL 0)) (sH (oApp 5 1 (xL 2) (xL 0)) (sS 9 (xL 0) sEnd))))))))
 (kReg (sV (oBin .add .no (xT 11) (ki 1)) (sS 11 (xL 0) sEnd)))))))))
 (kSeq (kReg (sS 1 (xT 9) sEnd))
 kRet)))))))
theorem t74 : FF d74 Tryz.f74 a74 [(.t 1)] := ff Tryz.func74 (by kernel_rfl)
def x74 : XFn := .go a74 1 pd14 [(.t 1)]
def d75 : FD := ⟨75, 2, [4, 2, 6, 3, 25]⟩
def a75 : CodeF := (kSeq (kReg (sH (oBox 33 7 (xT 0)) (sS 3 (xL 0) (sH (oBox 123 6 (xT 1)) (sS 5 (xL 0) (sS 2 (xK nils) sEnd))))))
 (kSeq (kSeq (kReg (sV (oFaddr 1 (xT 3)) (sV (oLoad (xL 0)) (sS 4 (xL 0) sEnd))))
 (kBlock 0 (kRegC (fun k => (sV (oBin .eql .no (xT 4) (ki 1)) k)) (xL 0) (kSeq (kDraw [(.v (oLoadN 6 (xT 5)), none), (.c (cFn 154) [(xL 0)], none), (.v (oFaddr 2 (xT 5)), none), (.v (oLoad (xL 0)), none), (.c (cFn 73) [(xL 0)], none), (.h (oBsl 25 1 1 [nils] [(0, 1, (xL 0))]), none), (.h (oApp 25 1 (xL 4) (xL 0)), none), (.v (oMov (xL 0)), none)] 0 [none, none, (some 0), none, none, none, none] [(4, 6)])
 kRet)
 (kRegC (fun k => (sV (oBin .eql .no (xT 4) (ki 2)) k)) (xL 0) (kSeq (kDraw [(.v (oLoadN 6 (xT 5)), none), (.c (cFn 154) [(xL 0)], none), (.v (oFaddr 3 (xT 5)), none), (.v (oLoad (xL 0)), none), (.c (cFn 155) [(xL 0)], none), (.h (oBsl 25 1 1 [nils] [(0, 1, (xL 0))]), none), (.h (oApp 25 1 (xL 4) (xL 0)), none), (.v (oMov (xL 0)), none)] 0 [none, none, (some 0), none, none, none, none] [(4, 6)])
 kRet)
 (kSeq (kRegC (fun k => (sV (oBin .eql .no (xT 4) (ki 3)) (sS 6 (xL 0) k))) (xT 6) kSkip
 (kReg (sV (oBin .eql .no (xT 4) (ki 4)) (sS 6 (xL 0) sEnd))))
 (kCond (xT 6) (kSeq (kDraw [(.v (oFaddr 4 (xT 5)), none), (.v (oLoad (xL 0)), none), (.c (cFn 156) [(xL 0)], none), (.v (oFaddr 5 (xT 5)), none), (.v (oLoad (xL 0)), none), (.c (cFn 157) [(ki 1), (xL 0)], none), (.h (oBsl 25 1 2 [nils] [(0, 1, (xL 3)), (1, 1, (xL 0))]), none), (.v (oMov (xL 0)), none)] 0 [none, none, (some 0), none, none, none, none] [(3, 5)])
 kRet)
 kSkip))))))
 (kSeq (kDraw [(.v (oLoadN 7 (xT 3)), none), (.c (cFn 158) [(xL 0)], none), (.v (oFaddr 5 (xT 5)), none), (.v (oLoad (xL 0)), none), (.c (cFn 157) [(xL 2), (xL 0)], none), (.h (oBsl 25 1 1 [nils] [(0, 1, (xL 0))]), none), (.v (oMov (xL 0)), none)] 0 [none, none, (some 0), none, none, none, none] [(3, 5)])
 kRet)))
theorem t75 : FF d75 Tryz.f75 a75 [(.t 2)] := ff Tryz.func75 (by kernel_rfl)
def x75 : XFn := .go a75 2 pd5 [(.t 2)]
def d76 : FD := ⟨76, 2, [4]⟩
def a76 : CodeF := (kSeq (kReg (sS 2 (xK nils) sEnd))
 (kSeq (kRegC (fun k => (sV (oBin .neq .no (xT 1) (ki 0)) k)) (xL 0) (kReg (sV (oBuild [(int .i64 (.ofNat 0))] [(0, 1, (xT 1))]) (sV (oMkif 109 (xL 0)) (sPan (xL 0)))))
 kSkip)
 (kSeq (kReg (sS 2 (xT 0) sEnd))
 kRet)))
theorem t76 : FF d76 Tryz.f76 a76 [(.t 2)] := ff Tryz.func76 (by kernel_rfl)
def x76 : XFn := .go a76 2 pd1 [(.t 2)]
def d77 : FD := ⟨77, 2, [4, 5, 23, 24, 25, 22, 9, 6, 7]⟩
def a77 : CodeF := (kSeq (kReg (sS 2 (xK nils) (sS 3 (ki 0) sEnd)))
 (kSeq (kRegC (fun k => (sV (oLenL (xT 1)) (sV (oBin .gtr .no (xL 0) (ki 1024)) k))) (xL 0) (kSeq (kReg (sS 2 (xK nils) (sS 3 (ki 3) sEnd)))
 kRet)
 kSkip)
 (kSeq (kReg (sH (oBsl 5 1 3 [(int .u8 (.ofNat 0))] [(0, 1, (xK (int .u8 (.ofNat 76)))), (1, 1, (xK (int .u8 (.ofNat 84)))), (2, 1, (xK (int .u8 (.ofNat 1))))]) (sH (oMark (xL 0)) (sH (oBsl 5 1 1 [(int .u8 (.ofNat 0))] [(0, 1, (xT 0))]) (sH (oApp 5 1 (xL 1) (xL 0)) (sV (oLenL (xT 1)) (sV (oConv .u64 (xL 0)) (sC (cFn 72) [(xL 2), (xL 0)] (sS 9 (xL 0) sEnd)))))))))
 (kSeq (kReg (sS 10 (ki 4) sEnd))
 (kSeq (kSeq (kReg (sS 7 (xT 1) (sV (oLenL (xT 7)) (sS 4 (xL 0) (sS 5 (ki 0) sEnd)))))
 (kBlock 0 (kLoop (kSeq (kReg (sV (oBin .lss .no (xT 5) (xT 4)) (sS 6 (xL 0) sEnd)))
 (kSeq (kCond (xT 6) kSkip
 (kExit 0))
 (kSeq (kBlock 1 (kSeq (kReg (sV (oIaddr 1 (xT 7) (xT 5)) (sV (oLoad (xL 0)) (sS 8 (xL 0) sEnd))))
 (kSeq (kReg (sV (oMov (xT 9)) (sV (oLenL (xT 8)) (sV (oConv .u64 (xL 0)) (sC (cFn 72) [(xL 2), (xL 0)] (sS 9 (xL 0) sEnd))))))
 (kSeq (kReg (sV (oMov (xT 10)) (sV (oLenL (xT 8)) (sV (oBin .add .no (xL 1) (xL 0)) (sS 10 (xL 0) sEnd)))))
 (kRegC (fun k => (sV (oBin .gtr .no (xT 10) (ki 16777216)) k)) (xL 0) (kSeq (kReg (sS 2 (xK nils) (sS 3 (ki 3) sEnd)))
 kRet)
 kSkip)))))
 (kReg (sV (oBin .add .no (xT 5) (ki 1)) (sS 5 (xL 0) sEnd)))))))))
 (kSeq (kRegC (fun k => (sV (oLenL (xT 9)) (sV (oBin .add .no (xL 0) (xT 10)) (sV (oBin .gtr .no (xL 0) (ki 16777216)) k)))) (xL 0) (kSeq (kReg (sS 2 (xK nils) (sS 3 (ki 3) sEnd)))
 kRet)
 kSkip)
 (kSeq (kReg (sV (oMov (xT 9)) (sC (cFn 159) [(xT 1)] (sH (oApp 5 1 (xL 1) (xL 0)) (sS 9 (xL 0) sEnd)))))
 (kSeq (kReg (sH (oBsl 25 1 1 [nils] [(0, 1, (xT 9))]) (sC (cFn 118) [(xL 0)] (sC (cFn 117) [(xL 0)] (sH (oApp 5 1 (xT 9) (xL 0)) (sC (cFn 27) [(xL 0)] (sS 2 (xL 0) (sS 3 (ki 0) sEnd))))))))
 kRet))))))))
theorem t77 : FF d77 Tryz.f77 a77 [(.t 2), (.t 3)] := ff Tryz.func77 (by kernel_rfl)
def x77 : XFn := .go a77 2 pd9 [(.t 2), (.t 3)]
def d78 : FD := ⟨78, 2, [4, 5]⟩
def a78 : CodeF := (kSeq (kReg (sS 2 (xK nils) sEnd))
 (kSeq (kRegC (fun k => (sV (oBin .lss .no (xT 1) (ki 0)) (sG (xL 0) false (sV (oMov (xT 1))) (sG (xL 1) false (sV (oMov (xT 0))) (sG (xL 2) false (sC (cFn 160) [(xL 0)]) (sG (xL 3) false (sV (oBin .geq .no (xL 2) (xL 0))) (sV (oPick (xL 4) (xK (bool true)) (xL 0)) k))))))) (xL 0) (kSeq (kReg (sS 2 (xK nils) sEnd))
 kRet)
 kSkip)
 (kSeq (kReg (sS 3 (ki 0) sEnd))
 (kSeq (kRegC (fun k => (sV (oBin .gtr .no (xT 1) (ki 0)) k)) (xL 0) (kReg (sV (oNilc (xT 0)) (sV (oFaddr 0 (xL 0)) (sV (oLoad (xL 0)) (sV (oBin .sub .no (xT 1) (ki 1)) (sV (oIaddr 1 (xL 1) (xL 0)) (sV (oLoad (xL 0)) (sS 3 (xL 0) sEnd))))))))
 kSkip)
 (kSeq (kDraw [(.v (oMov (xT 0)), none), (.v (oNilc (xL 0)), none), (.v (oFaddr 1 (xL 0)), none), (.v (oLoad (xL 0)), none), (.v (oMov (xT 3)), none), (.v (oMov (xT 0)), none), (.v (oNilc (xL 0)), none), (.v (oFaddr 0 (xL 0)), none), (.v (oLoad (xL 0)), none), (.v (oMov (xT 1)), none), (.v (oIaddr 1 (xL 1) (xL 0)), none), (.v (oLoad (xL 0)), none), (.v (oSlc 1 (xL 8) (some (xL 7)) (some (xL 0)) none), none), (.v (oMov (xL 0)), none)] 0 [none, none, (some 0), none] [])
 kRet)))))
theorem t78 : FF d78 Tryz.f78 a78 [(.t 2)] := ff Tryz.func78 (by kernel_rfl)
def x78 : XFn := .go a78 2 pd2 [(.t 2)]
def d79 : FD := ⟨79, 2, [4, 7, 8, 9, 5]⟩
def a79 : CodeF := (kSeq (kReg (sS 2 (ki 0) sEnd))
 (kSeq (kSeq (kReg (sV (oLenL (xT 0)) (sS 3 (xL 0) (sS 4 (ki 0) sEnd))))
 (kBlock 0 (kLoop (kSeq (kReg (sV (oBin .lss .no (xT 4) (xT 3)) (sS 5 (xL 0) sEnd)))
 (kSeq (kCond (xT 5) kSkip
 (kExit 0))
 (kSeq (kBlock 1 (kSeq (kReg (sS 6 (xT 4) sEnd))
 (kRegC (fun k => (sV (oIaddr 7 (xT 0) (xT 6)) (sV (oLoadN 7 (xL 0)) (sC (cVal (xT 1)) [(xL 0)] k)))) (xL 0) (kSeq (kReg (sS 2 (xT 6) sEnd))
 kRet)
 kSkip)))
 (kReg (sV (oBin .add .no (xT 4) (ki 1)) (sS 4 (xL 0) sEnd)))))))))
 (kSeq (kReg (sS 2 (xK (int .i64 (.negSucc 0))) sEnd))
 kRet)))
theorem t79 : FF d79 Tryz.f79 a79 [(.t 2)] := ff Tryz.func79 (by kernel_rfl)
def x79 : XFn := .go a79 2 pd5 [(.t 2)]
def d80 : FD := ⟨80, 2, [3, 2]⟩
def a80 : CodeF := (kSeq (kReg (sH (oBox 33 7 (xT 0)) (sS 3 (xL 0) (sS 2 (xK (bool false)) sEnd))))
 (kSeq (kReg (sV (oFaddr 0 (xT 3)) (sV (oLoad (xL 0)) (sV (oLoad (xT 1)) (sV (oBin .eql .no (xL 1) (xL 0)) (sS 2 (xL 0) sEnd))))))
 kRet))
theorem t80 : FF d80 Tryz.f80 a80 [(.t 2)] := ff Tryz.func80 (by kernel_rfl)
def x80 : XFn := .go a80 2 pd2 [(.t 2)]
def d81 : FD := ⟨81, 1, [2, 1, 19, 20, 21, 18, 4, 3, 5]⟩
def a81 : CodeF := (kSeq (kReg (sH (oBox 29 1 (xT 0)) (sS 2 (xL 0) (sS 1 (ki 0) sEnd))))
 (kSeq (kRegC (fun k => (sV (oFaddr 0 (xT 2)) (sV (oLoad (xL 0)) (sV (oLenL (xL 0)) (sV (oBin .lss .no (xL 0) (ki 1)) (sG (xL 0) false (sV (oFaddr 0 (xT 2))) (sG (xL 1) false (sV (oLoad (xL 0))) (sG (xL 2) false (sV (oLenL (xL 0))) (sG (xL 3) false (sV (oBin .gtr .no (xL 0) (ki 16))) (sV (oPick (xL 4) (xK (bool true)) (xL 0)) k)))))))))) (xL 0) (kSeq (kReg (sS 1 (ki 80) sEnd))
 kRet)
 kSkip)
 (kSeq (kSeq (kReg (sV (oFaddr 0 (xT 2)) (sV (oLoad (xL 0)) (sS 6 (xL 0) (sV (oLenL (xT 6)) (sS 3 (xL 0) (sS 4 (ki 0) sEnd)))))))
 (kBlock 0 (kLoop (kSeq (kReg (sV (oBin .lss .no (xT 4) (xT 3)) (sS 5 (xL 0) sEnd)))
 (kSeq (kCond (xT 5) kSkip
 (kExit 0))
 (kSeq (kBlock 1 (kSeq (kReg (sV (oIaddr 7 (xT 6) (xT 4)) (sV (oLoadN 7 (xL 0)) (sH (oAlloc 33 7 [(str []), (int .i64 (.ofNat 0)), nils, (int .i64 (.ofNat 0)), (int .i64 (.ofNat 0)), (bool false), (bool false)]) (sS 7 (xL 0) (sS 8 (xT 4) (sH (oStore 7 (xT 7) (xL 1)) sEnd)))))))
 (kSeq (kReg (sV (oLoadN 1 (xT 2)) (sV (oFaddr 0 (xT 7)) (sV (oLoad (xL 0)) (sC (cFn 36) [(xL 2), (xL 0)] (sV (oExt 0 (xL 0)) (sV (oExt 1 (xL 1)) (sS 9 (xL 1) sEnd))))))))
 (kRegC (fun k => (sV (oBin .neq .no (xT 9) (xT 8)) (sG (xL 0) false (sV (oLoadN 7 (xT 7))) (sG (xL 1) false (sC (cFn 161) [(xL 0)]) (sG (xL 2) false (sV (oUn .not (xL 0))) (sV (oPick (xL 3) (xK (bool true)) (xL 0)) k)))))) (xL 0) (kSeq (kReg (sS 1 (ki 80) sEnd))
 kRet)
 kSkip))))
 (kReg (sV (oBin .add .no (xT 4) (ki 1)) (sS 4 (xL 0) sEnd)))))))))
 (kSeq (kReg (sS 1 (ki 0) sEnd))
 kRet))))
theorem t81 : FF d81 Tryz.f81 a81 [(.t 1)] := ff Tryz.func81 (by kernel_rfl)
def x81 : XFn := .go a81 1 pd9 [(.t 1)]
def d82 : FD := ⟨82, 2, [4]⟩
def a82 : CodeF := (kSeq (kReg (sS 2 (xK (bool false)) sEnd))
 (kSeq (kReg (sV (oB2s (xT 0)) (sV (oB2s (xT 1)) (sV (oBin .eql .no (xL 1) (xL 0)) (sS 2 (xL 0) sEnd)))))
 kRet))
theorem t82 : FF d82 Tryz.f82 a82 [(.t 2)] := ff Tryz.func82 (by kernel_rfl)
def x82 : XFn := .go a82 2 pd1 [(.t 2)]
def d83 : FD := ⟨83, 3, [6, 7, 8, 10, 9, 11]⟩
def a83 : CodeF := (kSeq (kReg (sS 3 (ki 0) (sS 4 (xK (bool false)) sEnd)))
 (kSeq (kReg (sV (oLenL (xT 0)) (sS 5 (xL 0) sEnd)))
 (kSeq (kReg (sS 7 (ki 0) (sS 6 (xT 5) sEnd)))
 (kSeq (kBlock 0 (kLoop (kSeq (kRegC (fun k => (sV (oBin .lss .no (xT 7) (xT 6)) k)) (xL 0) kSkip
 (kExit 0))
 (kBlock 1 (kSeq (kReg (sV (oBin .add .no (xT 7) (xT 6)) (sV (oConv .u64 (xL 0)) (sV (oBin .shr .no (xL 0) (xK (int .u64 (.ofNat 1)))) (sV (oConv .i64 (xL 0)) (sS 8 (xL 0) sEnd))))))
 (kRegC (fun k => (sV (oIaddr 3 (xT 0) (xT 8)) (sV (oLoadN 3 (xL 0)) (sC (cVal (xT 2)) [(xL 0), (xT 1)] (sV (oBin .lss .no (xL 0) (ki 0)) k))))) (xL 0) (kReg (sV (oBin .add .no (xT 8) (ki 1)) (sS 7 (xL 0) sEnd)))
 (kReg (sS 6 (xT 8) sEnd))))))))
 (kSeq (kReg (sV (oBin .lss .no (xT 7) (xT 5)) (sG (xL 0) true (sV (oMov (xT 2))) (sG (xL 1) true (sV (oMov (xT 0))) (sG (xL 2) true (sV (oMov (xT 7))) (sG (xL 3) true (sV (oIaddr 3 (xL 1) (xL 0))) (sG (xL 4) true (sV (oLoadN 3 (xL 0))) (sG (xL 5) true (sV (oMov (xT 1))) (sG (xL 6) true (sC (cVal (xL 5)) [(xL 1), (xL 0)]) (sG (xL 7) true (sV (oBin .eql .no (xL 0) (ki 0))) (sV (oPick (xL 8) (xL 0) (xK (bool false))) (sS 3 (xT 7) (sS 4 (xL 0) sEnd)))))))))))))
 kRet)))))
theorem t83 : FF d83 Tryz.f83 a83 [(.t 3), (.t 4)] := ff Tryz.func83 (by kernel_rfl)
def x83 : XFn := .go a83 3 pd6 [(.t 3), (.t 4)]
def d84 : FD := ⟨84, 2, [4, 2]⟩
def a84 : CodeF := (kSeq (kReg (sH (oBox 175 3 (xT 0)) (sS 3 (xL 0) (sS 2 (ki 0) sEnd))))
 (kSeq (kReg (sV (oFaddr 1 (xT 3)) (sV (oLoad (xL 0)) (sV (oBin .sub .no (xL 0) (xT 1)) (sS 2 (xL 0) sEnd)))))
 kRet))
theorem t84 : FF d84 Tryz.f84 a84 [(.t 2)] := ff Tryz.func84 (by kernel_rfl)
def x84 : XFn := .go a84 2 pd2 [(.t 2)]
def d85 : FD := ⟨85, 1, [2, 1]⟩
def a85 : CodeF := (kSeq (kReg (sH (oBox 175 3 (xT 0)) (sS 2 (xL 0) (sS 1 (xK nilfunc) sEnd))))
 (kSeq (kReg (sV (oMkfn 162 [] [(xT 2)]) (sS 1 (xL 0) sEnd)))
 kRet))
theorem t85 : FF d85 Tryz.f85 a85 [(.t 1)] := ff Tryz.func85 (by kernel_rfl)
def x85 : XFn := .go a85 1 pd2 [(.t 1)]
def d86 : FD := ⟨86, 2, [4, 6, 5, 7]⟩
def a86 : CodeF := (kSeq (kReg (sS 2 (ki 0) sEnd))
 (kSeq (kReg (sS 4 (ki 0) (sS 3 (xT 0) sEnd)))
 (kSeq (kBlock 0 (kLoop (kSeq (kRegC (fun k => (sV (oBin .lss .no (xT 4) (xT 3)) k)) (xL 0) kSkip
 (kExit 0))
 (kBlock 1 (kSeq (kReg (sV (oBin .add .no (xT 4) (xT 3)) (sV (oConv .u64 (xL 0)) (sV (oBin .shr .no (xL 0) (xK (int .u64 (.ofNat 1)))) (sV (oConv .i64 (xL 0)) (sS 5 (xL 0) sEnd))))))
 (kRegC (fun k => (sC (cVal (xT 1)) [(xT 5)] (sV (oUn .not (xL 0)) k))) (xL 0) (kReg (sV (oBin .add .no (xT 5) (ki 1)) (sS 4 (xL 0) sEnd)))
 (kReg (sS 3 (xT 5) sEnd))))))))
 (kSeq (kReg (sS 2 (xT 4) sEnd))
 kRet))))
theorem t86 : FF d86 Tryz.f86 a86 [(.t 2)] := ff Tryz.func86 (by kernel_rfl)
def x86 : XFn := .go a86 2 pd4 [(.t 2)]
def d87 : FD := ⟨87, 3, [4]⟩
def a87 : CodeF := (kSeq (kReg (sS 3 (xK (bool false)) sEnd))
 (kSeq (kDraw [(.v (oLoad (xT 1)), none), (.v (oNilc (xL 0)), none), (.v (oFaddr 1 (xL 0)), none), (.v (oLoad (xL 0)), none), (.v (oMov (xT 0)), none), (.v (oIaddr 1 (xL 1) (xL 0)), none), (.v (oLoad (xL 0)), none), (.v (oLoad (xT 2)), none), (.v (oBin .gtr .no (xL 1) (xL 0)), none), (.v (oMov (xL 0)), none)] 0 [none, none, none, (some 0)] [])
 kRet))
theorem t87 : FF d87 Tryz.f87 a87 [(.t 3)] := ff Tryz.func87 (by kernel_rfl)
def x87 : XFn := .go a87 3 pd1 [(.t 3)]
def d88 : FD := ⟨88, 2, [4, 5, 7, 6]⟩
def a88 : CodeF := (kSeq (kReg (sS 2 (xK nils) (sS 3 (xK nils) sEnd)))
 (kSeq (kReg (sV (oNilc (xT 0)) (sV (oFaddr 0 (xL 0)) (sV (oLoad (xL 0)) (sV (oIaddr 1 (xL 0) (xT 1)) (sV (oLoad (xL 0)) (sC (cFn 60) [(xL 0)] (sC (cFn 165) [(xT 0), (xT 1)] (sC (cFn 164) [(xL 1), (xL 0)] (sV (oExt 0 (xL 0)) (sV (oExt 1 (xL 1)) (sV (oExt 2 (xL 2)) (sS 5 (xL 2) (sS 4 (xL 1) sEnd))))))))))))))
 (kSeq (kReg (sS 2 (xT 5) (sS 3 (xT 4) sEnd)))
 kRet)))
theorem t88 : FF d88 Tryz.f88 a88 [(.t 2), (.t 3)] := ff Tryz.func88 (by kernel_rfl)
def x88 : XFn := .go a88 2 pd4 [(.t 2), (.t 3)]
def d89 : FD := ⟨89, 2, [4, 3, 2]⟩
def a89 : CodeF := (kSeq (kReg (sH (oBox 39 1 (xT 0)) (sS 4 (xL 0) (sH (oBox 9 1 (xT 1)) (sS 3 (xL 0) (sS 2 (ki 0) sEnd))))))
 (kSeq (kReg (sV (oLoad (xT 4)) (sV (oLenL (xL 0)) (sV (oMkfn 166 [] [(xT 4), (xT 3)]) (sC (cFn 86) [(xL 1), (xL 0)] (sS 2 (xL 0) sEnd))))))
 kRet))
theorem t89 : FF d89 Tryz.f89 a89 [(.t 2)] := ff Tryz.func89 (by kernel_rfl)
def x89 : XFn := .go a89 2 pd3 [(.t 2)]
def d90 : FD := ⟨90, 1, [2, 3, 1, 4, 5, 7, 6, 44, 45, 46, 43, 8, 10, 11, 77, 78, 79, 76, 15, 13, 16, 14, 103, 104, 105, 102, 19, 17, 12]⟩
def a90 : CodeF := (kSeq (kReg (sH (oBox 194 4 (xT 0)) (sS 3 (xL 0) (sS 1 (xK nils) (sS 2 (xK (bool false)) sEnd)))))
 (kSeq (kReg (sV (oFaddr 0 (xT 3)) (sV (oLoad (xL 0)) (sH (oAlloc 25 1 [nils]) (sS 4 (xL 0) (sH (oStore 1 (xT 4) (xL 1)) sEnd))))))
 (kSeq (kReg (sV (oMkfn 167 [] [(xT 4)]) (sS 5 (xL 0) sEnd)))
 (kSeq (kReg (sV (oFaddr 3 (xT 3)) (sV (oLoad (xL 0)) (sC (cVal (xT 5)) [(xL 0)] (sS 7 (xL 0) sEnd)))))
 (kSeq (kReg (sV (oFaddr 3 (xT 3)) (sV (oLoad (xL 0)) (sC (cVal (xT 5)) [(xL 0)] (sS 6 (xL 0) sEnd)))))
 (kSeq (kRegC (fun k => (sV (oLenL (xT 7)) (sV (oFaddr 3 (xT 3)) (sV (oLoad (xL 0)) (sV (oBin .neq .no (xL 2) (xL 0)) (sG (xL 0) false (sV (oMov (xT 6))) (sG (xL 1) false (sV (oLenL (xL 0))) (sG (xL 2) false (sV (oFaddr 3 (xT 3))) (sG (xL 3) false (sV (oLoad (xL 0))) (sG (xL 4) false (sV (oBin .neq .no (xL 2) (xL 0))) (sV (oPick (xL 5) (xK (bool true)) (xL 0)) k))))))))))) (xL 0) (kSeq (kReg (sS 1 (xK nils) (sS 2 (xK (bool false)) sEnd)))
 kRet)
 kSkip)
 (kSeq (kReg (sS 12 (ki 0) sEnd))
 (kSeq (kSeq (kReg (sS 11 (xT 6) (sV (oLenL (xT 11)) (sS 8 (xL 0) (sS 9 (ki 0) sEnd)))))
 (kBlock 0 (kLoop (kSeq (kReg (sV (oBin .lss .no (xT 9) (xT 8)) (sS 10 (xL 0) sEnd)))
 (kSeq (kCond (xT 10) kSkip
 (kExit 0))
 (kSeq (kBlock 1 (kSeq (kReg (sV (oIaddr 1 (xT 11) (xT 9)) (sV (oLoad (xL 0)) (sS 13 (xL 0) sEnd))))
 (kSeq (kRegC (fun k => (sV (oBin .lss .no (xT 13) (ki 0)) (sG (xL 0) false (sV (oMov (xT 13))) (sG (xL 1) false (sV (oMov (xT 12))) (sG (xL 2) false (sV (oBin .sub .no (ki 1048576) (xL 0))) (sG (xL 3) false (sV (oBin .geq .no (xL 2) (xL 0))) (sV (oPick (xL 4) (xK (bool true)) (xL 0)) k))))))) (xL 0) (kSeq (kReg (sS 1 (xK nils) (sS 2 (xK (bool false)) sEnd)))
 kRet)
 kSkip)
 (kReg (sV (oMov (xT 12)) (sV (oBin .add .no (xT 13) (ki 1)) (sV (oBin .add .no (xL 1) (xL 0)) (sS 12 (xL 0) sEnd))))))))
 (kReg (sV (oBin .add .no (xT 9) (ki 1)) (sS 9 (xL 0) sEnd)))))))))
 (kSeq (kReg (sC (cVal (xT 5)) [(xT 12)] (sS 14 (xL 0) sEnd)))
 (kSeq (kRegC (fun k => (sV (oLenL (xT 14)) (sV (oBin .neq .no (xL 0) (xT 12)) (sG (xL 0) false (sV (oLoad (xT 4))) (sG (xL 1) false (sV (oLenL (xL 0))) (sG (xL 2) false (sV (oBin .gtr .no (xL 0) (ki 0))) (sV (oPick (xL 3) (xK (bool true)) (xL 0)) k))))))) (xL 0) (kSeq (kReg (sS 1 (xK nils) (sS 2 (xK (bool false)) sEnd)))
 kRet)
 kSkip)
 (kSeq (kReg (sS 29 (xK nils) sEnd))
 (kSeq (kReg (sV (oFaddr 1 (xT 3)) (sV (oLoad (xL 0)) (sS 20 (xL 0) sEnd))))
 (kSeq (kSeq (kReg (sS 18 (xT 7) (sV (oLenL (xT 18)) (sS 15 (xL 0) (sS 16 (ki 0) sEnd)))))
 (kBlock 2 (kLoop (kSeq (kReg (sV (oBin .lss .no (xT 16) (xT 15)) (sS 17 (xL 0) sEnd)))
 (kSeq (kCond (xT 17) kSkip
 (kExit 2))
 (kSeq (kBlock 3 (kSeq (kReg (sV (oIaddr 1 (xT 18) (xT 16)) (sV (oLoad (xL 0)) (sS 22 (xT 16) (sS 19 (xL 0) sEnd)))))
 (kSeq (kRegC (fun k => (sV (oBin .lss .no (xT 19) (ki 0)) (sG (xL 0) false (sV (oMov (xT 19))) (sG (xL 1) false (sV (oBin .geq .no (xL 0) (ki 16384))) (sV (oPick (xL 2) (xK (bool true)) (xL 0)) k))))) (xL 0) (kSeq (kReg (sS 1 (xK nils) (sS 2 (xK (bool false)) sEnd)))
 kRet)
 kSkip)
 (kSeq (kReg (sV (oBin .add .no (xT 20) (ki 1)) (sV (oBin .add .no (xL 0) (xT 19)) (sV (oBuild [(int .i64 (.ofNat 0)), nils] [(0, 1, (xL 0))]) (sH (oAlloc 107 2 [(int .i64 (.ofNat 0)), nils]) (sS 21 (xL 0) (sH (oStore 2 (xT 21) (xL 1)) sEnd)))))))
 (kSeq (kReg (sV (oFaddr 0 (xT 21)) (sV (oLoad (xL 0)) (sS 20 (xL 0) sEnd))))
 (kSeq (kReg (sS 28 (ki 0) sEnd))
 (kSeq (kSeq (kReg (sV (oIaddr 1 (xT 6) (xT 22)) (sV (oLoad (xL 0)) (sV (oBin .add .no (xL 0) (ki 1)) (sV (oSlc 1 (xT 14) none (some (xL 0)) none) (sS 26 (xL 0) (sV (oLenL (xT 26)) (sS 23 (xL 0) (sS 24 (ki 0) sEnd)))))))))
 (kBlock 4 (kLoop (kSeq (kReg (sV (oBin .lss .no (xT 24) (xT 23)) (sS 25 (xL 0) sEnd)))
 (kSeq (kCond (xT 25) kSkip
 (kExit 4))
 (kSeq (kBlock 5 (kSeq (kReg (sV (oIaddr 1 (xT 26) (xT 24)) (sV (oLoad (xL 0)) (sS 27 (xL 0) sEnd))))
 (kSeq (kRegC (fun k => (sV (oBin .lss .no (xT 27) (ki 0)) (sG (xL 0) false (sV (oMov (xT 27))) (sG (xL 1) false (sV (oBin .gtr .no (xL 0) (ki 1048576))) (sV (oPick (xL 2) (xK (bool true)) (xL 0)) k))))) (xL 0) (kSeq (kReg (sS 1 (xK nils) (sS 2 (xK (bool false)) sEnd)))
 kRet)
 kSkip)
 (kSeq (kReg (sV (oMov (xT 28)) (sV (oBin .add .no (xL 0) (xT 27)) (sS 28 (xL 0) sEnd))))
 (kReg (sV (oFaddr 1 (xT 21)) (sV (oLoad (xL 0)) (sH (oBsl 3 1 1 [(int .i64 (.ofNat 0))] [(0, 1, (xT 28))]) (sH (oApp 3 1 (xL 1) (xL 0)) (sV (oFaddr 1 (xT 21)) (sH (oStore 1 (xL 0) (xL 1)) sEnd)))))))))))
 (kReg (sV (oBin .add .no (xT 24) (ki 1)) (sS 24 (xL 0) sEnd)))))))))
 (kSeq (kReg (sV (oMov (xT 14)) (sV (oIaddr 1 (xT 6) (xT 22)) (sV (oLoad (xL 0)) (sV (oBin .add .no (xL 0) (ki 1)) (sV (oSlc 1 (xL 3) (some (xL 0)) none none) (sS 14 (xL 0) sEnd)))))))
 (kSeq (kReg (sV (oFaddr 1 (xT 21)) (sV (oLoad (xL 0)) (sC (cFn 37) [(xL 0)] (sV (oFaddr 1 (xT 21)) (sH (oStore 1 (xL 0) (xL 1)) sEnd))))))
 (kReg (sV (oMov (xT 29)) (sV (oLoadN 2 (xT 21)) (sH (oBsl 107 2 1 [(int .i64 (.ofNat 0)), nils] [(0, 2, (xL 0))]) (sH (oApp 107 2 (xL 2) (xL 0)) (sS 29 (xL 0) sEnd)))))))))))))))
 (kReg (sV (oBin .add .no (xT 16) (ki 1)) (sS 16 (xL 0) sEnd)))))))))
 (kSeq (kDraw [(.v (oMov (xT 29)), none), (.v (oMov (xT 20)), none), (.v (oFaddr 2 (xT 3)), none), (.v (oLoad (xL 0)), none), (.v (oBin .eql .no (xL 2) (xL 0)), none), (.v (oMov (xL 4)), none), (.v (oMov (xL 1)), none)] 0 [none, (some 1), (some 0), none, none, none, none, none, none, none, none, none, none, none, none, none, none, none, none, none, none, none, none, none, none, none, none, none, none, none] [])
 kRet))))))))))))))
theorem t90 : FF d90 Tryz.f90 a90 [(.t 1), (.t 2)] := ff Tryz.func90 (by kernel_rfl)
def x90 : XFn := .go a90 1 pd29 [(.t 1), (.t 2)]
def d91 : FD := ⟨91, 1, [1]⟩
def a91 : CodeF := (kSeq (kReg (sS 1 (ki 0) sEnd))
 (kSeq (kReg (sV (oLoad (xT 0)) (sC (cFn 92) [(xL 0), (ki 81)] (sS 1 (xL 0) sEnd))))
 kRet))
theorem t91 : FF d91 Tryz.f91 a91 [(.t 1)] := ff Tryz.func91 (by kernel_rfl)
def x91 : XFn := .go a91 1 pd1 [(.t 1)]
def d92 : FD := ⟨92, 2, [4]⟩
def a92 : CodeF := (kSeq (kReg (sS 2 (ki 0) sEnd))
 (kSeq (kRegC (fun k => k) (xT 0) (kSeq (kReg (sS 2 (ki 0) sEnd))
 kRet)
 kSkip)
 (kSeq (kReg (sS 2 (xT 1) sEnd))
 kRet)))
theorem t92 : FF d92 Tryz.f92 a92 [(.t 2)] := ff Tryz.func92 (by kernel_rfl)
def x92 : XFn := .go a92 2 pd1 [(.t 2)]
def d93 : FD := ⟨93, 2, [2]⟩
def a93 : CodeF := (kSeq (kReg (sS 2 (ki 0) sEnd))
 (kSeq (kReg (sV (oLoadN 7 (xT 0)) (sV (oFaddr 1 (xT 1)) (sV (oLoad (xL 0)) (sV (oFaddr 2 (xT 1)) (sV (oLoad (xL 0)) (sC (cFn 94) [(xL 4), (xL 2), (xL 0)] (sC (cFn 92) [(xL 0), (ki 82)] (sS 2 (xL 0) sEnd)))))))))
 kRet))
theorem t93 : FF d93 Tryz.f93 a93 [(.t 2)] := ff Tryz.func93 (by kernel_rfl)
def x93 : XFn := .go a93 2 pd1 [(.t 2)]
def d94 : FD := ⟨94, 3, [6, 3, 8]⟩
def a94 : CodeF := (kSeq (kReg (sH (oBox 33 7 (xT 0)) (sS 4 (xL 0) (sS 3 (xK (bool false)) sEnd))))
 (kSeq (kSeq (kReg (sV (oFaddr 1 (xT 4)) (sV (oLoad (xL 0)) (sS 5 (xL 0) sEnd))))
 (kBlock 0 (kRegC (fun k => (sV (oBin .eql .no (xT 5) (ki 3)) k)) (xL 0) (kSeq (kReg (sV (oBin .eql .no (xT 1) (xK (str []))) (sG (xL 0) true (sV (oMov (xT 2))) (sG (xL 1) true (sV (oLenL (xL 0))) (sG (xL 2) true (sV (oBin .eql .no (xL 0) (ki 1))) (sV (oPick (xL 3) (xL 0) (xK (bool false))) (sS 3 (xL 0) sEnd)))))))
 kRet)
 (kRegC (fun k => (sV (oBin .eql .no (xT 5) (ki 5)) k)) (xL 0) (kSeq (kReg (sV (oBin .eql .no (xT 1) (xK (str []))) (sG (xL 0) true (sV (oMov (xT 2))) (sG (xL 1) true (sV (oLenL (xL 0))) (sG (xL 2) true (sV (oFaddr 4 (xT 4))) (sG (xL 3) true (sV (oLoad (xL 0))) (sG (xL 4) true (sV (oBin .eql .no (xL 2) (xL 0))) (sV (oPick (xL 5) (xL 0) (xK (bool false))) (sS 3 (xL 0) sEnd)))))))))
 kRet)
 kSkip))))
 (kSeq (kReg (sV (oLenL (xT 2)) (sV (oBin .eql .no (xL 0) (ki 0)) (sS 3 (xL 0) sEnd))))
 kRet)))
theorem t94 : FF d94 Tryz.f94 a94 [(.t 3)] := ff Tryz.func94 (by kernel_rfl)
def x94 : XFn := .go a94 3 pd3 [(.t 3)]
def d95 : FD := ⟨95, 3, [3]⟩
def a95 : CodeF := (kSeq (kReg (sS 3 (ki 0) sEnd))
 (kSeq (kReg (sV (oFaddr 5 (xT 0)) (sV (oLoad (xL 0)) (sG (xL 0) false (sV (oLoad (xT 1))) (sG (xL 1) false (sV (oLoad (xT 2))) (sG (xL 2) false (sV (oIaddr 1 (xL 1) (xL 0))) (sG (xL 3) false (sV (oLoad (xL 0))) (sG (xL 4) false (sV (oBin .eql .no (xL 0) (ki 0))) (sV (oPick (xL 5) (xK (bool true)) (xL 0)) (sC (cFn 92) [(xL 0), (ki 84)] (sS 3 (xL 0) sEnd)))))))))))
 kRet))
theorem t95 : FF d95 Tryz.f95 a95 [(.t 3)] := ff Tryz.func95 (by kernel_rfl)
def x95 : XFn := .go a95 3 pd1 [(.t 3)]
def d96 : FD := ⟨96, 5, [5]⟩
def a96 : CodeF := (kSeq (kReg (sS 5 (ki 0) sEnd))
 (kSeq (kDraw [(.v (oLoadN 7 (xT 0)), none), (.v (oLoadN 3 (xT 1)), none), (.v (oLoad (xT 3)), none), (.v (oLoad (xT 4)), none), (.v (oIaddr 1 (xL 1) (xL 0)), none), (.c (cFn 97) [(xL 4), (xL 3), (xT 2), (xL 0)], none), (.c (cFn 92) [(xL 0), (ki 83)], none), (.v (oMov (xL 0)), none)] 0 [none, none, none, none, none, (some 0)] [])
 kRet))
theorem t96 : FF d96 Tryz.f96 a96 [(.t 5)] := ff Tryz.func96 (by kernel_rfl)
def x96 : XFn := .go a96 5 pd1 [(.t 5)]
def d97 : FD := ⟨97, 4, [8, 4, 14, 5, 9, 10, 11, 12]⟩
def a97 : CodeF := (kSeq (kReg (sH (oBox 33 7 (xT 0)) (sS 5 (xL 0) (sH (oBox 69 3 (xT 1)) (sS 7 (xL 0) (sS 4 (xK (bool false)) sEnd))))))
 (kSeq (kSeq (kReg (sV (oFaddr 1 (xT 5)) (sV (oLoad (xL 0)) (sS 6 (xL 0) sEnd))))
 (kBlock 0 (kRegC (fun k => (sV (oBin .eql .no (xT 6) (ki 1)) k)) (xL 0) (kSeq (kReg (sV (oFaddr 2 (xT 5)) (sV (oLoad (xL 0)) (sV (oFaddr 1 (xT 7)) (sV (oLoad (xL 0)) (sC (cFn 168) [(xL 2), (xL 0)] (sV (oExt 0 (xL 0)) (sV (oExt 1 (xL 1)) (sS 8 (xL 1) (sS 9 (xL 0) sEnd))))))))))
 (kSeq (kReg (sV (oNilc (xT 3)) (sV (oLoad (xL 0)) (sV (oLenL (xT 8)) (sV (oBin .add .no (xL 1) (xL 0)) (sV (oNilc (xT 3)) (sH (oStore 1 (xL 0) (xL 1)) sEnd)))))))
 (kSeq (kReg (sV (oFaddr 1 (xT 7)) (sV (oLoad (xL 0)) (sV (oNilc (xT 2)) (sV (oFaddr 1 (xL 0)) (sH (oStore 1 (xL 0) (xL 2)) sEnd))))))
 (kSeq (kReg (sV (oBin .eql .no (xT 9) (ki 0)) (sG (xL 0) true (sV (oMov (xT 3))) (sG (xL 1) true (sV (oNilc (xL 0))) (sG (xL 2) true (sV (oLoad (xL 0))) (sG (xL 3) true (sV (oBin .leq .no (xL 0) (ki 4096))) (sV (oPick (xL 4) (xL 0) (xK (bool false))) (sS 4 (xL 0) sEnd))))))))
 kRet))))
 (kRegC (fun k => (sV (oBin .eql .no (xT 6) (ki 2)) k)) (xL 0) (kSeq (kReg (sV (oFaddr 1 (xT 7)) (sV (oLoad (xL 0)) (sV (oNilc (xT 2)) (sV (oFaddr 1 (xL 0)) (sH (oStore 1 (xL 0) (xL 2)) sEnd))))))
 (kSeq (kReg (sV (oFaddr 1 (xT 7)) (sV (oLoad (xL 0)) (sV (oLenS (xL 0)) (sV (oBin .leq .no (xL 0) (ki 256)) (sS 4 (xL 0) sEnd))))))
 kRet))
 (kRegC (fun k => (sV (oBin .eql .no (xT 6) (ki 4)) k)) (xL 0) (kSeq (kReg (sV (oFaddr 1 (xT 7)) (sV (oLoad (xL 0)) (sV (oFaddr 3 (xT 5)) (sV (oLoad (xL 0)) (sC (cFn 169) [(xL 2), (xL 0)] (sV (oExt 0 (xL 0)) (sV (oExt 1 (xL 1)) (sS 10 (xL 1) (sS 11 (xL 0) sEnd))))))))))
 (kSeq (kReg (sH (oBsl 2 1 1 [(int .i64 (.ofNat 0))] [(0, 1, (xT 10))]) (sV (oNilc (xT 2)) (sV (oFaddr 2 (xL 0)) (sH (oStore 1 (xL 0) (xL 2)) sEnd)))))
 (kSeq (kReg (sV (oBin .eql .no (xT 11) (ki 0)) (sS 4 (xL 0) sEnd)))
 kRet)))
 kSkip)))))
 (kSeq (kReg (sV (oFaddr 2 (xT 7)) (sV (oLoad (xL 0)) (sC (cFn 99) [(xL 0)] (sV (oNilc (xT 2)) (sV (oFaddr 2 (xL 0)) (sH (oStore 1 (xL 0) (xL 2)) sEnd)))))))
 (kSeq (kReg (sS 4 (xK (bool true)) sEnd))
 kRet))))
theorem t97 : FF d97 Tryz.f97 a97 [(.t 4)] := ff Tryz.func97 (by kernel_rfl)
def x97 : XFn := .go a97 4 pd8 [(.t 4)]
def d98 : FD := ⟨98, 1, [2]⟩
def a98 : CodeF := (kSeq (kReg (sS 1 (xK nils) sEnd))
 (kSeq (kReg (sV (oLenL (xT 0)) (sV (oLenL (xT 0)) (sV (oSlc 1 (xT 0) none (some (xL 1)) (some (xL 0))) (sS 1 (xL 0) sEnd)))))
 kRet))
theorem t98 : FF d98 Tryz.f98 a98 [(.t 1)] := ff Tryz.func98 (by kernel_rfl)
def x98 : XFn := .go a98 1 pd1 [(.t 1)]
def d99 : FD := ⟨99, 1, [2]⟩
def a99 : CodeF := (kSeq (kReg (sS 1 (xK nils) sEnd))
 (kSeq (kRegC (fun k => (sV (oBin .eql .slice (xT 0) (xK nils)) k)) (xL 0) (kSeq (kReg (sS 1 (xK nils) sEnd))
 kRet)
 kSkip)
 (kSeq (kReg (sH (oBsl 2 1 0 [(int .i64 (.ofNat 0))] []) (sH (oApp 2 1 (xL 0) (xT 0)) (sS 1 (xL 0) sEnd))))
 kRet)))
theorem t99 : FF d99 Tryz.f99 a99 [(.t 1)] := ff Tryz.func99 (by kernel_rfl)
def x99 : XFn := .go a99 1 pd1 [(.t 1)]
def d100 : FD := ⟨100, 3, [6, 20, 21, 22, 19, 8]⟩
def a100 : CodeF := (kSeq (kDraw [(.v (oMov (xT 0)), none), (.v (oNilc (xL 0)), none), (.v (oFaddr 6 (xL 0)), none), (.v (oLoadN 1 (xL 0)), none), (.v (oMov (xT 0)), none), (.v (oNilc (xL 0)), none), (.v (oFaddr 7 (xL 0)), none), (.v (oLoad (xL 0)), none), (.v (oMov (xT 2)), none), (.c (cFn 170) [(xL 5), (xL 1), (xL 0)], none), (.v (oMov (xL 0)), none)] 0 [none, none, none, (some 0), none, none, none, none, none] [])
 (kSeq (kSeq (kReg (sS 7 (xT 3) (sV (oLenL (xT 7)) (sS 4 (xL 0) (sS 5 (ki 0) sEnd)))))
 (kBlock 0 (kLoop (kSeq (kReg (sV (oBin .lss .no (xT 5) (xT 4)) (sS 6 (xL 0) sEnd)))
 (kSeq (kCond (xT 6) kSkip
 (kExit 0))
 (kSeq (kBlock 1 (kSeq (kReg (sV (oIaddr 4 (xT 7) (xT 5)) (sV (oLoadN 4 (xL 0)) (sH (oAlloc 292 4 [(str []), (int .i64 (.ofNat 0)), (int .i64 (.ofNat 0)), (int .i64 (.ofNat 0))]) (sS 8 (xL 0) (sH (oStore 4 (xT 8) (xL 1)) sEnd))))))
 (kReg (sV (oFaddr 0 (xT 8)) (sV (oLoad (xL 0)) (sV (oFaddr 1 (xT 8)) (sV (oLoad (xL 0)) (sC (cFn 171) [(xT 0), (xL 2), (xT 1), (xL 0)] sEnd))))))))
 (kReg (sV (oBin .add .no (xT 5) (ki 1)) (sS 5 (xL 0) sEnd)))))))))
 (kReg (sV (oNilc (xT 0)) (sV (oFaddr 0 (xL 0)) (sV (oFaddr 2 (xL 0)) (sV (oLoad (xL 0)) (sV (oLenL (xT 3)) (sH (oBsl 2 1 1 [(int .i64 (.ofNat 0))] [(0, 1, (xL 0))]) (sH (oApp 2 1 (xL 2) (xL 0)) (sV (oNilc (xT 0)) (sV (oFaddr 0 (xL 0)) (sV (oFaddr 2 (xL 0)) (sH (oStore 1 (xL 0) (xL 3)) sEnd))))))))))))))
theorem t100 : FF d100 Tryz.f100 a100 [] := ff Tryz.func100 (by kernel_rfl)
def x100 : XFn := .go a100 3 pd6 []
def d101 : FD := ⟨101, 3, [12, 13, 14, 11, 8, 6, 29, 30, 31, 28, 10]⟩
def a101 : CodeF := (kSeq (kReg (sS 8 (xK nils) sEnd))
 (kSeq (kSeq (kReg (sS 6 (xT 2) (sV (oLenL (xT 6)) (sS 3 (xL 0) (sS 4 (ki 0) sEnd)))))
 (kBlock 0 (kLoop (kSeq (kReg (sV (oBin .lss .no (xT 4) (xT 3)) (sS 5 (xL 0) sEnd)))
 (kSeq (kCond (xT 5) kSkip
 (kExit 0))
 (kSeq (kBlock 1 (kSeq (kReg (sV (oIaddr 3 (xT 6) (xT 4)) (sV (oLoadN 3 (xL 0)) (sH (oAlloc 134 3 [(int .i64 (.ofNat 0)), (str []), nils]) (sS 7 (xL 0) (sH (oStore 3 (xT 7) (xL 1)) sEnd))))))
 (kReg (sV (oMov (xT 8)) (sV (oFaddr 1 (xT 7)) (sV (oLoad (xL 0)) (sH (oBsl 9 1 1 [(str [])] [(0, 1, (xL 0))]) (sH (oApp 9 1 (xL 3) (xL 0)) (sS 8 (xL 0) sEnd)))))))))
 (kReg (sV (oBin .add .no (xT 4) (ki 1)) (sS 4 (xL 0) sEnd)))))))))
 (kSeq (kReg (sC (cFn 172) [(xT 8)] sEnd))
 (kSeq (kReg (sV (oMov (xT 8)) (sC (cFn 173) [(xL 0)] (sC (cFn 110) [(xL 0)] (sS 8 (xL 0) sEnd)))))
 (kSeq (kSeq (kReg (sS 12 (xT 8) (sV (oLenL (xT 12)) (sS 9 (xL 0) (sS 10 (ki 0) sEnd)))))
 (kBlock 2 (kLoop (kSeq (kReg (sV (oBin .lss .no (xT 10) (xT 9)) (sS 11 (xL 0) sEnd)))
 (kSeq (kCond (xT 11) kSkip
 (kExit 2))
 (kSeq (kBlock 3 (kSeq (kReg (sV (oIaddr 1 (xT 12) (xT 10)) (sV (oLoad (xL 0)) (sS 13 (xL 0) sEnd))))
 (kReg (sC (cFn 171) [(xT 0), (xT 13), (xT 1), (ki 0)] sEnd))))
 (kReg (sV (oBin .add .no (xT 10) (ki 1)) (sS 10 (xL 0) sEnd)))))))))
 (kReg (sV (oNilc (xT 0)) (sV (oFaddr 0 (xL 0)) (sV (oFaddr 3 (xL 0)) (sV (oLoad (xL 0)) (sH (oBsl 39 1 1 [nils] [(0, 1, (xT 8))]) (sH (oApp 39 1 (xL 1) (xL 0)) (sV (oNilc (xT 0)) (sV (oFaddr 0 (xL 0)) (sV (oFaddr 3 (xL 0)) (sH (oStore 1 (xL 0) (xL 3)) sEnd))))))))))))))))
theorem t101 : FF d101 Tryz.f101 a101 [] := ff Tryz.func101 (by kernel_rfl)
def x101 : XFn := .go a101 3 pd11 []
def d102 : FD := ⟨102, 3, [10, 11, 12, 9, 8, 6]⟩
def a102 : CodeF := (kSeq (kReg (sS 8 (xK nils) sEnd))
 (kSeq (kSeq (kReg (sS 6 (xT 2) (sV (oLenL (xT 6)) (sS 3 (xL 0) (sS 4 (ki 0) sEnd)))))
 (kBlock 0 (kLoop (kSeq (kReg (sV (oBin .lss .no (xT 4) (xT 3)) (sS 5 (xL 0) sEnd)))
 (kSeq (kCond (xT 5) kSkip
 (kExit 0))
 (kSeq (kBlock 1 (kSeq (kReg (sV (oIaddr 3 (xT 6) (xT 4)) (sV (oLoadN 3 (xL 0)) (sH (oAlloc 134 3 [(int .i64 (.ofNat 0)), (str []), nils]) (sS 7 (xL 0) (sH (oStore 3 (xT 7) (xL 1)) sEnd))))))
 (kReg (sV (oMov (xT 8)) (sV (oFaddr 2 (xT 7)) (sV (oLoad (xL 0)) (sV (oIaddr 1 (xL 0) (ki 0)) (sV (oLoad (xL 0)) (sH (oBsl 2 1 1 [(int .i64 (.ofNat 0))] [(0, 1, (xL 0))]) (sH (oApp 2 1 (xL 5) (xL 0)) (sS 8 (xL 0) sEnd)))))))))))
 (kReg (sV (oBin .add .no (xT 4) (ki 1)) (sS 4 (xL 0) sEnd)))))))))
 (kSeq (kReg (sC (cFn 174) [(xT 8)] sEnd))
 (kSeq (kDraw [(.v (oMov (xT 0)), none), (.v (oMov (xT 0)), none), (.v (oNilc (xL 0)), none), (.v (oFaddr 0 (xL 0)), none), (.v (oFaddr 4 (xL 0)), none), (.v (oLoad (xL 0)), none), (.v (oMov (xT 8)), none), (.c (cFn 98) [(xL 0)], none), (.h (oBsl 67 1 1 [nils] [(0, 1, (xL 0))]), none), (.h (oApp 67 1 (xL 3) (xL 0)), none), (.v (oNilc (xL 9)), none), (.v (oFaddr 0 (xL 0)), none), (.v (oFaddr 4 (xL 0)), none), (.h (oStore 1 (xL 0) (xL 3)), none)] 0 [none, none, none, none, none, none, none, none, none] [(8, 6), (8, 5)])
 (kReg (sC (cFn 103) [(xT 0), (xT 1), (xT 2)] sEnd))))))
theorem t102 : FF d102 Tryz.f102 a102 [] := ff Tryz.func102 (by kernel_rfl)
def x102 : XFn := .go a102 3 pd6 []
def d103 : FD := ⟨103, 3, [9, 10, 11, 8, 7]⟩
def a103 : CodeF := (kSeq (kReg (sS 6 (xT 2) (sV (oLenL (xT 6)) (sS 3 (xL 0) (sS 4 (ki 0) sEnd)))))
 (kBlock 0 (kLoop (kSeq (kReg (sV (oBin .lss .no (xT 4) (xT 3)) (sS 5 (xL 0) sEnd)))
 (kSeq (kCond (xT 5) kSkip
 (kExit 0))
 (kSeq (kBlock 1 (kSeq (kReg (sV (oIaddr 3 (xT 6) (xT 4)) (sV (oLoadN 3 (xL 0)) (sH (oAlloc 134 3 [(int .i64 (.ofNat 0)), (str []), nils]) (sS 7 (xL 0) (sH (oStore 3 (xT 7) (xL 1)) sEnd))))))
 (kDraw [(.v (oMov (xT 0)), none), (.v (oMov (xT 0)), none), (.v (oNilc (xL 0)), none), (.v (oFaddr 0 (xL 0)), none), (.v (oFaddr 5 (xL 0)), none), (.v (oLoad (xL 0)), none), (.v (oMov (xT 1)), none), (.v (oFaddr 2 (xT 7)), none), (.v (oLoad (xL 0)), none), (.c (cFn 99) [(xL 0)], none), (.c (cFn 98) [(xL 0)], none), (.v (oBuild [(int .i64 (.ofNat 0)), nils] [(0, 1, (xL 4)), (1, 1, (xL 0))]), none), (.h (oBsl 222 2 1 [(int .i64 (.ofNat 0)), nils] [(0, 2, (xL 0))]), none), (.h (oApp 222 2 (xL 7) (xL 0)), none), (.v (oNilc (xL 13)), none), (.v (oFaddr 0 (xL 0)), none), (.v (oFaddr 5 (xL 0)), none), (.h (oStore 1 (xL 0) (xL 3)), none)] 0 [none, none, none, none, none, none, none, none] [(12, 8), (12, 7), (12, 5)])))
 (kReg (sV (oBin .add .no (xT 4) (ki 1)) (sS 4 (xL 0) sEnd)))))))))
theorem t103 : FF d103 Tryz.f103 a103 [] := ff Tryz.func103 (by kernel_rfl)
def x103 : XFn := .go a103 3 pd5 []
def d104 : FD := ⟨104, 2, [4, 7, 8, 9, 5]⟩
def a104 : CodeF := (kSeq (kReg (sS 2 (ki 0) sEnd))
 (kSeq (kSeq (kReg (sV (oLenL (xT 0)) (sS 3 (xL 0) (sS 4 (ki 0) sEnd))))
 (kBlock 0 (kLoop (kSeq (kReg (sV (oBin .lss .no (xT 4) (xT 3)) (sS 5 (xL 0) sEnd)))
 (kSeq (kCond (xT 5) kSkip
 (kExit 0))
 (kSeq (kBlock 1 (kSeq (kReg (sS 6 (xT 4) sEnd))
 (kRegC (fun k => (sV (oIaddr 3 (xT 0) (xT 6)) (sV (oLoadN 3 (xL 0)) (sC (cVal (xT 1)) [(xL 0)] k)))) (xL 0) (kSeq (kReg (sS 2 (xT 6) sEnd))
 kRet)
 kSkip)))
 (kReg (sV (oBin .add .no (xT 4) (ki 1)) (sS 4 (xL 0) sEnd)))))))))
 (kSeq (kReg (sS 2 (xK (int .i64 (.negSucc 0))) sEnd))
 kRet)))
theorem t104 : FF d104 Tryz.f104 a104 [(.t 2)] := ff Tryz.func104 (by kernel_rfl)
def x104 : XFn := .go a104 2 pd5 [(.t 2)]
def d105 : FD := ⟨105, 1, [2, 3]⟩
def a105 : CodeF := (kSeq (kReg (sS 1 (xK nils) sEnd))
 (kSeq (kReg (sC (cFn 175) [(xT 0)] (sS 2 (xL 0) sEnd)))
 (kSeq (kReg (sC (cFn 172) [(xT 2)] sEnd))
 (kSeq (kReg (sS 1 (xT 2) sEnd))
 kRet))))
theorem t105 : FF d105 Tryz.f105 a105 [(.t 1)] := ff Tryz.func105 (by kernel_rfl)
def x105 : XFn := .mrg a105 1 pd2 [(.t 1)]
def d106 : FD := ⟨106, 1, [2, 1]⟩
def a106 : CodeF := (kSeq (kReg (sH (oBox 117 1 (xT 0)) (sS 2 (xL 0) (sS 1 (xK nilfunc) sEnd))))
 (kSeq (kReg (sV (oMkfn 176 [] [(xT 2)]) (sS 1 (xL 0) sEnd)))
 kRet))
theorem t106 : FF d106 Tryz.f106 a106 [(.t 1)] := ff Tryz.func106 (by kernel_rfl)
def x106 : XFn := .go a106 1 pd2 [(.t 1)]
def d107 : FD := ⟨107, 1, [2, 3]⟩
def a107 : CodeF := (kSeq (kReg (sS 1 (xK nils) sEnd))
 (kSeq (kReg (sC (cFn 177) [(xT 0)] (sS 2 (xL 0) sEnd)))
 (kSeq (kReg (sC (cFn 178) [(xT 2)] sEnd))
 (kSeq (kReg (sS 1 (xT 2) sEnd))
 kRet))))
theorem t107 : FF d107 Tryz.f107 a107 [(.t 1)] := ff Tryz.func107 (by kernel_rfl)
def x107 : XFn := .go a107 1 pd2 [(.t 1)]
def d108 : FD := ⟨108, 1, [2, 1]⟩
def a108 : CodeF := (kSeq (kReg (sH (oBox 209 1 (xT 0)) (sS 2 (xL 0) (sS 1 (xK nilfunc) sEnd))))
 (kSeq (kReg (sV (oMkfn 179 [] [(xT 2)]) (sS 1 (xL 0) sEnd)))
 kRet))
theorem t108 : FF d108 Tryz.f108 a108 [(.t 1)] := ff Tryz.func108 (by kernel_rfl)
def x108 : XFn := .go a108 1 pd2 [(.t 1)]
def d109 : FD := ⟨109, 1, [2]⟩
def a109 : CodeF := (kSeq (kReg (sS 1 (xK nils) sEnd))
 (kSeq (kReg (sV (oLenL (xT 0)) (sV (oLenL (xT 0)) (sV (oSlc 2 (xT 0) none (some (xL 1)) (some (xL 0))) (sS 1 (xL 0) sEnd)))))
 kRet))
theorem t109 : FF d109 Tryz.f109 a109 [(.t 1)] := ff Tryz.func109 (by kernel_rfl)
def x109 : XFn := .go a109 1 pd1 [(.t 1)]
def d110 : FD := ⟨110, 1, [2]⟩
def a110 : CodeF := (kSeq (kReg (sS 1 (xK nils) sEnd))
 (kSeq (kReg (sV (oLenL (xT 0)) (sV (oLenL (xT 0)) (sV (oSlc 1 (xT 0) none (some (xL 1)) (some (xL 0))) (sS 1 (xL 0) sEnd)))))
 kRet))
theorem t110 : FF d110 Tryz.f110 a110 [(.t 1)] := ff Tryz.func110 (by kernel_rfl)
def x110 : XFn := .go a110 1 pd1 [(.t 1)]
def d111 : FD := ⟨111, 1, [2]⟩
def a111 : CodeF := (kSeq (kReg (sS 1 (xK nils) sEnd))
 (kSeq (kReg (sV (oLenL (xT 0)) (sV (oLenL (xT 0)) (sV (oSlc 1 (xT 0) none (some (xL 1)) (some (xL 0))) (sS 1 (xL 0) sEnd)))))
 kRet))
theorem t111 : FF d111 Tryz.f111 a111 [(.t 1)] := ff Tryz.func111 (by kernel_rfl)
def x111 : XFn := .go a111 1 pd1 [(.t 1)]
def d112 : FD := ⟨112, 1, [2]⟩
def a112 : CodeF := (kSeq (kReg (sS 1 (xK nils) sEnd))
 (kSeq (kReg (sV (oLenL (xT 0)) (sV (oLenL (xT 0)) (sV (oSlc 1 (xT 0) none (some (xL 1)) (some (xL 0))) (sS 1 (xL 0) sEnd)))))
 kRet))
theorem t112 : FF d112 Tryz.f112 a112 [(.t 1)] := ff Tryz.func112 (by kernel_rfl)
def x112 : XFn := .go a112 1 pd1 [(.t 1)]
def d113 : FD := ⟨113, 1, [2]⟩
def a113 : CodeF := (kSeq (kReg (sS 1 (xK nils) sEnd))
 (kSeq (kReg (sV (oLenL (xT 0)) (sV (oLenL (xT 0)) (sV (oSlc 1 (xT 0) none (some (xL 1)) (some (xL 0))) (sS 1 (xL 0) sEnd)))))
 kRet))
theorem t113 : FF d113 Tryz.f113 a113 [(.t 1)] := ff Tryz.func113 (by kernel_rfl)
def x113 : XFn := .go a113 1 pd1 [(.t 1)]
def d114 : FD := ⟨114, 1, [2]⟩
def a114 : CodeF := (kSeq (kReg (sS 1 (xK nils) sEnd))
 (kSeq (kReg (sV (oLenL (xT 0)) (sV (oLenL (xT 0)) (sV (oSlc 2 (xT 0) none (some (xL 1)) (some (xL 0))) (sS 1 (xL 0) sEnd)))))
 kRet))
theorem t114 : FF d114 Tryz.f114 a114 [(.t 1)] := ff Tryz.func114 (by kernel_rfl)
def x114 : XFn := .go a114 1 pd1 [(.t 1)]
def d115 : FD := ⟨115, 1, [1, 2]⟩
def a115 : CodeF := (kSeq (kReg (sS 1 (xK nils) sEnd))
 (kSeq (kRegC (fun k => (sV (oLoad (xT 0)) (sV (oLenL (xL 0)) (sV (oBin .eql .no (xL 0) (ki 0)) k)))) (xL 0) (kReg (sV (oBuild [(int .i64 (.ofNat 0))] [(0, 1, (ki 20))]) (sV (oMkif 109 (xL 0)) (sPan (xL 0)))))
 kSkip)
 (kSeq (kReg (sV (oLoad (xT 0)) (sV (oIaddr 1 (xL 0) (ki 0)) (sV (oLoad (xL 0)) (sS 2 (xL 0) sEnd)))))
 (kSeq (kReg (sV (oLoad (xT 0)) (sV (oSlc 1 (xL 0) (some (ki 1)) none none) (sH (oStore 1 (xT 0) (xL 0)) sEnd))))
 (kSeq (kReg (sS 1 (xT 2) sEnd))
 kRet)))))
theorem t115 : FF d115 Tryz.f115 a115 [(.t 1)] := ff Tryz.func115 (by kernel_rfl)
def x115 : XFn := .go a115 1 pd2 [(.t 1)]
def d116 : FD := ⟨116, 1, [2, 3]⟩
def a116 : CodeF := (kSeq (kReg (sS 1 (xK (int .u8 (.ofNat 0))) (sS 2 (xK (bool false)) sEnd)))
 (kSeq (kRegC (fun k => (sV (oLenL (xT 0)) (sV (oBin .lss .no (xL 0) (ki 4)) (sG (xL 0) false (sV (oMov (xT 0))) (sG (xL 1) false (sV (oSlc 1 (xL 0) none (some (ki 3)) none)) (sG (xL 2) false (sV (oB2s (xL 0))) (sG (xL 3) false (sV (oBin .neq .no (xL 0) (xK (str [76, 84, 1])))) (sV (oPick (xL 4) (xK (bool true)) (xL 0)) k)))))))) (xL 0) (kSeq (kReg (sS 1 (xK (int .u8 (.ofNat 0))) (sS 2 (xK (bool false)) sEnd)))
 kRet)
 kSkip)
 (kSeq (kReg (sV (oIaddr 1 (xT 0) (ki 3)) (sV (oLoad (xL 0)) (sS 1 (xL 0) (sS 2 (xK (bool true)) sEnd)))))
 kRet)))
theorem t116 : FF d116 Tryz.f116 a116 [(.t 1), (.t 2)] := ff Tryz.func116 (by kernel_rfl)
def x116 : XFn := .go a116 1 pd2 [(.t 1), (.t 2)]
def d117 : FD := ⟨117, 1, [2]⟩
def a117 : CodeF := (kSeq (kReg (sS 1 (xK nils) sEnd))
 (kSeq (kReg (sV (oConv .u8 (xT 0)) (sV (oBin .shr .no (xT 0) (xK (int .u64 (.ofNat 8)))) (sV (oConv .u8 (xL 0)) (sV (oBin .shr .no (xT 0) (xK (int .u64 (.ofNat 16)))) (sV (oConv .u8 (xL 0)) (sV (oBin .shr .no (xT 0) (xK (int .u64 (.ofNat 24)))) (sV (oConv .u8 (xL 0)) (sH (oBsl 5 1 4 [(int .u8 (.ofNat 0))] [(0, 1, (xL 6)), (1, 1, (xL 4)), (2, 1, (xL 2)), (3, 1, (xL 0))]) (sS 1 (xL 0) sEnd))))))))))
 kRet))
theorem t117 : FF d117 Tryz.f117 a117 [(.t 1)] := ff Tryz.func117 (by kernel_rfl)
def x117 : XFn := .go a117 1 pd1 [(.t 1)]
def d118 : FD := ⟨118, 1, [2, 11, 12, 13, 10, 6, 17, 18, 19, 16, 8, 4, 3]⟩
def a118 : CodeF := (kSeq (kReg (sS 1 (xK (int .u32 (.ofNat 0))) sEnd))
 (kSeq (kReg (sC (cFn 180) [] (sH (oAlloc 298 16 [(int .u32 (.ofNat 0)), (int .u32 (.ofNat 0)), (int .u32 (.ofNat 0)), (int .u32 (.ofNat 0)), (int .u32 (.ofNat 0)), (int .u32 (.ofNat 0)), (int .u32 (.ofNat 0)), (int .u32 (.ofNat 0)), (int .u32 (.ofNat 0)), (int .u32 (.ofNat 0)), (int .u32 (.ofNat 0)), (int .u32 (.ofNat 0)), (int .u32 (.ofNat 0)), (int .u32 (.ofNat 0)), (int .u32 (.ofNat 0)), (int .u32 (.ofNat 0))]) (sS 13 (xL 0) (sH (oStore 16 (xT 13) (xL 1)) sEnd)))))
 (kSeq (kReg (sS 12 (xK (int .u32 (.ofNat 4294967295))) sEnd))
 (kSeq (kSeq (kReg (sS 5 (xT 0) (sV (oLenL (xT 5)) (sS 2 (xL 0) (sS 3 (ki 0) sEnd)))))
 (kBlock 0 (kLoop (kSeq (kReg (sV (oBin .lss .no (xT 3) (xT 2)) (sS 4 (xL 0) sEnd)))
 (kSeq (kCond (xT 4) kSkip
 (kExit 0))
 (kSeq (kBlock 1 (kSeq (kReg (sV (oIaddr 1 (xT 5) (xT 3)) (sV (oLoad (xL 0)) (sS 6 (xL 0) sEnd))))
 (kSeq (kReg (sS 10 (xT 6) (sV (oLenL (xT 10)) (sS 7 (xL 0) (sS 8 (ki 0) sEnd)))))
 (kBlock 2 (kLoop (kSeq (kReg (sV (oBin .lss .no (xT 8) (xT 7)) (sS 9 (xL 0) sEnd)))
 (kSeq (kCond (xT 9) kSkip
 (kExit 2))
 (kSeq (kBlock 3 (kSeq (kReg (sV (oIaddr 1 (xT 10) (xT 8)) (sV (oLoad (xL 0)) (sS 11 (xL 0) sEnd))))
 (kSeq (kReg (sV (oMov (xT 12)) (sV (oConv .u32 (xT 11)) (sV (oBin .xor .no (xL 1) (xL 0)) (sS 12 (xL 0) sEnd)))))
 (kSeq (kReg (sV (oMov (xT 12)) (sV (oBin .shr .no (xL 0) (xK (int .u64 (.ofNat 4)))) (sV (oMov (xT 12)) (sV (oBin .and .no (xL 0) (xK (int .u32 (.ofNat 15)))) (sV (oIaddra 16 1 (xT 13) (xL 0)) (sV (oLoad (xL 0)) (sV (oBin .xor .no (xL 4) (xL 0)) (sS 12 (xL 0) sEnd)))))))))
 (kReg (sV (oMov (xT 12)) (sV (oBin .shr .no (xL 0) (xK (int .u64 (.ofNat 4)))) (sV (oMov (xT 12)) (sV (oBin .and .no (xL 0) (xK (int .u32 (.ofNat 15)))) (sV (oIaddra 16 1 (xT 13) (xL 0)) (sV (oLoad (xL 0)) (sV (oBin .xor .no (xL 4) (xL 0)) (sS 12 (xL 0) sEnd)))))))))))))
 (kReg (sV (oBin .add .no (xT 8) (ki 1)) (sS 8 (xL 0) sEnd)))))))))))
 (kReg (sV (oBin .add .no (xT 3) (ki 1)) (sS 3 (xL 0) sEnd)))))))))
 (kSeq (kReg (sV (oUn .xor (xT 12)) (sS 1 (xL 0) sEnd)))
 kRet)))))
theorem t118 : FF d118 Tryz.f118 a118 [(.t 1)] := ff Tryz.func118 (by kernel_rfl)
def x118 : XFn := .go a118 1 pd13 [(.t 1)]
def d119 : FD := ⟨119, 1, [2]⟩
def a119 : CodeF := (kSeq (kReg (sS 1 (ki 0) sEnd))
 (kSeq (kRegC (fun k => (sV (oBin .neq .ptr (xT 0) (xK nilptr)) (sG (xL 0) true (sV (oMov (xT 0))) (sG (xL 1) true (sV (oNilc (xL 0))) (sG (xL 2) true (sV (oFaddr 2 (xL 0))) (sG (xL 3) true (sV (oLoad (xL 0))) (sG (xL 4) true (sV (oBin .eql .no (xL 0) (ki 0))) (sV (oPick (xL 5) (xL 0) (xK (bool false))) (sG (xL 0) true (sV (oMov (xT 0))) (sG (xL 1) true (sC (cFn 64) [(xL 0)]) (sG (xL 2) true (sV (oBin .gtr .no (xL 0) (ki 0))) (sV (oPick (xL 3) (xL 0) (xK (bool false))) k)))))))))))) (xL 0) (kReg (sV (oNilc (xT 0)) (sV (oFaddr 2 (xL 0)) (sH (oStore 1 (xL 0) (ki 20)) sEnd))))
 kSkip)
 (kSeq (kReg (sC (cFn 66) [(xT 0)] (sS 1 (xL 0) sEnd)))
 kRet)))
theorem t119 : FF d119 Tryz.f119 a119 [(.t 1)] := ff Tryz.func119 (by kernel_rfl)
def x119 : XFn := .go a119 1 pd1 [(.t 1)]
def d120 : FD := ⟨120, 1, [2]⟩
def a120 : CodeF := (kSeq (kReg (sS 1 (xK nils) sEnd))
 (kSeq (kReg (sV (oLenL (xT 0)) (sV (oLenL (xT 0)) (sV (oSlc 1 (xT 0) none (some (xL 1)) (some (xL 0))) (sS 1 (xL 0) sEnd)))))
 kRet))
theorem t120 : FF d120 Tryz.f120 a120 [(.t 1)] := ff Tryz.func120 (by kernel_rfl)
def x120 : XFn := .go a120 1 pd1 [(.t 1)]
def d121 : FD := ⟨121, 2, [4, 5, 7, 6]⟩
def a121 : CodeF := (kSeq (kReg (sS 2 (ki 0) sEnd))
 (kSeq (kReg (sS 3 (ki 0) sEnd))
 (kSeq (kRegC (fun k => (sV (oBin .eql .ptr (xT 0) (xK nilptr)) (sG (xL 0) false (sV (oMov (xT 0))) (sG (xL 1) false (sV (oNilc (xL 0))) (sG (xL 2) false (sV (oFaddr 2 (xL 0))) (sG (xL 3) false (sV (oLoad (xL 0))) (sG (xL 4) false (sV (oBin .neq .no (xL 0) (ki 0))) (sV (oPick (xL 5) (xK (bool true)) (xL 0)) k)))))))) (xL 0) (kSeq (kReg (sS 2 (xT 3) sEnd))
 kRet)
 kSkip)
 (kSeq (kDraw [(.v (oMov (xT 1)), none), (.v (oMov (xT 0)), none), (.v (oNilc (xL 0)), none), (.v (oFaddr 0 (xL 0)), none), (.v (oLoad (xL 0)), none), (.v (oMov (xT 0)), none), (.v (oNilc (xL 0)), none), (.v (oFaddr 1 (xL 0)), none), (.v (oLoad (xL 0)), none), (.v (oSlc 1 (xL 4) (some (xL 0)) none none), none), (.c (cVal (xL 9)) [(xL 0)], none), (.v (oMov (xL 0)), none), (.v (oExt 0 (xL 0)), none), (.v (oExt 1 (xL 1)), none), (.v (oMov (xL 1)), none), (.v (oMov (xL 1)), none)] 0 [none, none, none, none, (some 0), (some 1)] [])
 (kSeq (kRegC (fun k => (sV (oBin .lss .no (xT 4) (ki 0)) k)) (xL 0) (kSeq (kReg (sV (oNilc (xT 0)) (sV (oFaddr 2 (xL 0)) (sH (oStore 1 (xL 0) (ki 20)) sEnd))))
 (kSeq (kReg (sS 2 (xT 3) sEnd))
 kRet))
 kSkip)
 (kSeq (kReg (sV (oNilc (xT 0)) (sV (oFaddr 1 (xL 0)) (sV (oLoad (xL 0)) (sV (oBin .add .no (xL 0) (xT 4)) (sV (oNilc (xT 0)) (sV (oFaddr 1 (xL 0)) (sH (oStore 1 (xL 0) (xL 2)) sEnd))))))))
 (kSeq (kReg (sS 2 (xT 5) sEnd))
 kRet)))))))
theorem t121 : FF d121 Tryz.f121 a121 [(.t 2)] := ff Tryz.func121 (by kernel_rfl)
def x121 : XFn := .go a121 2 pd4 [(.t 2)]
def d122 : FD := ⟨122, 3, [4, 5, 6, 7]⟩
def a122 : CodeF := (kSeq (kReg (sS 3 (ki 0) (sS 4 (ki 0) sEnd)))
 (kSeq (kReg (sV (oLoad (xT 1)) (sC (cFn 123) [(xL 0), (xT 0)] (sV (oExt 0 (xL 0)) (sV (oExt 1 (xL 1)) (sS 5 (xL 1) (sS 6 (xL 0) sEnd)))))))
 (kSeq (kRegC (fun k => (sV (oBin .lss .no (xT 6) (ki 0)) (sG (xL 0) false (sV (oLoad (xT 2))) (sG (xL 1) false (sV (oBin .lss .no (xL 0) (ki 0))) (sV (oPick (xL 2) (xK (bool true)) (xL 0)) (sG (xL 0) false (sV (oMov (xT 5))) (sG (xL 1) false (sV (oLoad (xT 2))) (sG (xL 2) false (sV (oConv .u64 (xL 0))) (sG (xL 3) false (sV (oBin .gtr .no (xL 2) (xL 0))) (sV (oPick (xL 4) (xK (bool true)) (xL 0)) k)))))))))) (xL 0) (kSeq (kReg (sS 3 (ki 0) (sS 4 (xK (int .i64 (.negSucc 0))) sEnd)))
 kRet)
 kSkip)
 (kSeq (kReg (sV (oConv .i64 (xT 5)) (sS 3 (xL 0) (sS 4 (xT 6) sEnd))))
 kRet))))
theorem t122 : FF d122 Tryz.f122 a122 [(.t 3), (.t 4)] := ff Tryz.func122 (by kernel_rfl)
def x122 : XFn := .go a122 3 pd4 [(.t 3), (.t 4)]
def d123 : FD := ⟨123, 2, [4, 5, 15, 16, 17, 14, 8, 9, 7, 6]⟩
def a123 : CodeF := (kSeq (kReg (sS 2 (xK (int .u64 (.ofNat 0))) (sS 3 (ki 0) sEnd)))
 (kSeq (kReg (sS 11 (xK (int .u64 (.ofNat 0))) sEnd))
 (kSeq (kSeq (kReg (sV (oLenL (xT 1)) (sV (oMm false (xL 0) [(ki 10)]) (sV (oSlc 1 (xT 1) none (some (xL 0)) none) (sS 7 (xL 0) (sV (oLenL (xT 7)) (sS 4 (xL 0) (sS 5 (ki 0) sEnd))))))))
 (kBlock 0 (kLoop (kSeq (kReg (sV (oBin .lss .no (xT 5) (xT 4)) (sS 6 (xL 0) sEnd)))
 (kSeq (kCond (xT 6) kSkip
 (kExit 0))
 (kSeq (kBlock 1 (kSeq (kReg (sV (oIaddr 1 (xT 7) (xT 5)) (sV (oLoad (xL 0)) (sS 10 (xT 5) (sS 8 (xL 0) sEnd)))))
 (kSeq (kReg (sV (oBin .and .no (xT 8) (xK (int .u8 (.ofNat 127)))) (sV (oConv .u64 (xL 0)) (sS 9 (xL 0) sEnd))))
 (kSeq (kRegC (fun k => (sV (oBin .eql .no (xT 10) (ki 9)) (sG (xL 0) true (sV (oMov (xT 9))) (sG (xL 1) true (sV (oBin .gtr .no (xL 0) (xK (int .u64 (.ofNat 1))))) (sV (oPick (xL 2) (xL 0) (xK (bool false))) k))))) (xL 0) (kSeq (kReg (sS 2 (xK (int .u64 (.ofNat 0))) (sS 3 (xK (int .i64 (.negSucc 0))) sEnd)))
 kRet)
 kSkip)
 (kSeq (kReg (sV (oMov (xT 11)) (sV (oBin .mul .no (ki 7) (xT 10)) (sV (oBin .shl .no (xT 9) (xL 0)) (sV (oBin .or .no (xL 2) (xL 0)) (sS 11 (xL 0) sEnd))))))
 (kRegC (fun k => (sV (oBin .lss .no (xT 8) (xK (int .u8 (.ofNat 128)))) k)) (xL 0) (kSeq (kRegC (fun k => (sV (oBin .eql .no (xT 8) (xK (int .u8 (.ofNat 0)))) (sG (xL 0) true (sV (oMov (xT 10))) (sG (xL 1) true (sV (oBin .gtr .no (xL 0) (ki 0))) (sV (oPick (xL 2) (xL 0) (xK (bool false))) k))))) (xL 0) (kSeq (kReg (sS 2 (xK (int .u64 (.ofNat 0))) (sS 3 (xK (int .i64 (.negSucc 0))) sEnd)))
 kRet)
 kSkip)
 (kSeq (kReg (sV (oBin .add .no (xT 10) (ki 1)) (sS 2 (xT 11) (sS 3 (xL 0) sEnd))))
 kRet))
 kSkip))))))
 (kReg (sV (oBin .add .no (xT 5) (ki 1)) (sS 5 (xL 0) sEnd)))))))))
 (kSeq (kReg (sS 2 (xK (int .u64 (.ofNat 0))) (sS 3 (xK (int .i64 (.negSucc 0))) sEnd)))
 kRet))))
theorem t123 : FF d123 Tryz.f123 a123 [(.t 2), (.t 3)] := ff Tryz.func123 (by kernel_rfl)
def x123 : XFn := .go a123 2 pd10 [(.t 2), (.t 3)]
def d124 : FD := ⟨124, 1, [2, 3]⟩
def a124 : CodeF := (kSeq (kReg (sS 1 (ki 0) sEnd))
 (kSeq (kReg (sV (oMkfn 123 [(xT 0)] []) (sC (cFn 181) [(xT 0), (xL 0)] (sS 2 (xL 0) sEnd))))
 (kSeq (kReg (sV (oBin .shr .no (xT 2) (xK (int .u64 (.ofNat 1)))) (sV (oConv .i64 (xL 0)) (sV (oBin .and .no (xT 2) (xK (int .u64 (.ofNat 1)))) (sV (oConv .i64 (xL 0)) (sV (oUn .neg (xL 0)) (sV (oBin .xor .no (xL 3) (xL 0)) (sS 1 (xL 0) sEnd))))))))
 kRet)))
theorem t124 : FF d124 Tryz.f124 a124 [(.t 1)] := ff Tryz.func124 (by kernel_rfl)
def x124 : XFn := .go a124 1 pd2 [(.t 1)]
def d125 : FD := ⟨125, 3, [6, 7, 8, 38, 39, 40, 11, 9, 12, 10]⟩
def a125 : CodeF := (kSeq (kReg (sS 3 (xK nils) (sS 4 (ki 0) sEnd)))
 (kSeq (kBlock 0 (kRegC (fun k => (sV (oBin .lss .no (xT 1) (ki 0)) (sG (xL 0) false (sV (oMov (xT 1))) (sG (xL 1) false (sV (oBin .gtr .no (xL 0) (ki 64))) (sV (oPick (xL 2) (xK (bool true)) (xL 0)) (sG (xL 0) false (sV (oMov (xT 2))) (sG (xL 1) false (sV (oBin .lss .no (xL 0) (ki 0))) (sV (oPick (xL 2) (xK (bool true)) (xL 0)) (sG (xL 0) false (sV (oMov (xT 2))) (sG (xL 1) false (sV (oBin .gtr .no (xL 0) (ki 1048576))) (sV (oPick (xL 2) (xK (bool true)) (xL 0)) k))))))))))) (xL 0) (kSeq (kReg (sS 3 (xK nils) (sS 4 (ki 1) sEnd)))
 kRet)
 (kRegC (fun k => (sV (oLenL (xT 0)) (sC (cFn 126) [(xT 1), (xT 2)] (sV (oBin .neq .no (xL 1) (xL 0)) k)))) (xL 0) (kSeq (kReg (sS 3 (xK nils) (sS 4 (ki 20) sEnd)))
 kRet)
 kSkip)))
 (kSeq (kReg (sH (oMksl 52 1 [(int .u64 (.ofNat 0))] (xT 2) (xT 2)) (sS 5 (xL 0) sEnd)))
 (kSeq (kReg (sS 10 (ki 0) sEnd))
 (kSeq kSkip
 (kSeq (kSeq (kReg (sV (oLenL (xT 5)) (sS 6 (xL 0) (sS 7 (ki 0) sEnd))))
 (kBlock 1 (kLoop (kSeq (kReg (sV (oBin .lss .no (xT 7) (xT 6)) (sS 8 (xL 0) sEnd)))
 (kSeq (kCond (xT 8) kSkip
 (kExit 1))
 (kSeq (kBlock 2 (kSeq (kReg (sS 12 (xT 7) sEnd))
 (kSeq (kReg (sS 9 (ki 0) sEnd))
 (kBlock 3 (kLoop (kBlock 4 (kSeq (kRegC (fun k => (sV (oBin .eql .no (xT 9) (xT 1)) k)) (xL 0) (kExit 2)
 kSkip)
 (kSeq (kReg (sV (oBin .rem .no (xT 10) (ki 8)) (sV (oBin .sub .no (ki 8) (xL 0)) (sV (oBin .sub .no (xT 1) (xT 9)) (sV (oMm false (xL 1) [(xL 0)]) (sS 11 (xL 0) sEnd))))))
 (kSeq (kDraw [(.v (oMov (xT 5)), none), (.v (oMov (xT 12)), none), (.v (oIaddr 1 (xL 1) (xL 0)), none), (.v (oLoad (xL 0)), none), (.v (oMov (xT 0)), none), (.v (oMov (xT 10)), none), (.v (oBin .quo .no (xL 0) (ki 8)), none), (.v (oIaddr 1 (xL 2) (xL 0)), none), (.v (oLoad (xL 0)), none), (.v (oMov (xT 10)), none), (.v (oBin .rem .no (xL 0) (ki 8)), none), (.v (oBin .shr .no (xL 2) (xL 0)), none), (.v (oMov (xT 11)), none), (.v (oBin .shl .no (xK (int .u8 (.ofNat 1))) (xL 0)), none), (.v (oBin .sub .no (xL 0) (xK (int .u8 (.ofNat 1)))), none), (.v (oBin .and .no (xL 3) (xL 0)), none), (.v (oConv .u64 (xL 0)), none), (.v (oMov (xT 9)), none), (.v (oBin .shl .no (xL 1) (xL 0)), none), (.v (oBin .or .no (xL 15) (xL 0)), none), (.v (oIaddr 1 (xL 19) (xL 18)), none), (.h (oStore 1 (xL 0) (xL 1)), none)] 0 [none, none, none, none, none, none, none, none, none, none, none, none, none] [])
 (kSeq (kReg (sV (oMov (xT 9)) (sV (oBin .add .no (xL 0) (xT 11)) (sS 9 (xL 0) sEnd))))
 (kReg (sV (oMov (xT 10)) (sV (oBin .add .no (xL 0) (xT 11)) (sS 10 (xL 0) sEnd))))))))))))))
 (kReg (sV (oBin .add .no (xT 7) (ki 1)) (sS 7 (xL 0) sEnd)))))))))
 (kSeq (kRegC (fun k => (sV (oBin .rem .no (xT 10) (ki 8)) (sV (oBin .gtr .no (xL 0) (ki 0)) (sG (xL 0) true (sV (oMov (xT 0))) (sG (xL 1) true (sV (oMov (xT 10))) (sG (xL 2) true (sV (oBin .quo .no (xL 0) (ki 8))) (sG (xL 3) true (sV (oIaddr 1 (xL 2) (xL 0))) (sG (xL 4) true (sV (oLoad (xL 0))) (sG (xL 5) true (sV (oMov (xT 10))) (sG (xL 6) true (sV (oBin .rem .no (xL 0) (ki 8))) (sG (xL 7) true (sV (oBin .shr .no (xL 2) (xL 0))) (sG (xL 8) true (sV (oBin .neq .no (xL 0) (xK (int .u8 (.ofNat 0))))) (sV (oPick (xL 9) (xL 0) (xK (bool false))) k))))))))))))) (xL 0) (kSeq (kReg (sS 3 (xK nils) (sS 4 (ki 20) sEnd)))
 kRet)
 kSkip)
 (kSeq (kReg (sS 3 (xT 5) (sS 4 (ki 0) sEnd)))
 kRet))))))))
theorem t125 : FF d125 Tryz.f125 a125 [(.t 3), (.t 4)] := ff Tryz.func125 (by kernel_rfl)
def x125 : XFn := .go a125 3 pd10 [(.t 3), (.t 4)]
def d126 : FD := ⟨126, 2, [4]⟩
def a126 : CodeF := (kSeq (kReg (sS 2 (ki 0) sEnd))
 (kSeq (kReg (sV (oBin .mul .no (xT 0) (xT 1)) (sV (oBin .add .no (xL 0) (ki 7)) (sV (oBin .quo .no (xL 0) (ki 8)) (sS 2 (xL 0) sEnd)))))
 kRet))
theorem t126 : FF d126 Tryz.f126 a126 [(.t 2)] := ff Tryz.func126 (by kernel_rfl)
def x126 : XFn := .go a126 2 pd1 [(.t 2)]
def d127 : FD := ⟨127, 1, [2, 7, 8, 9, 6, 5, 3]⟩
def a127 : CodeF := (kSeq (kReg (sS 1 (ki 0) sEnd))
 (kSeq (kReg (sS 7 (xK (int .u64 (.ofNat 0))) sEnd))
 (kSeq (kSeq (kReg (sS 5 (xT 0) (sV (oLenL (xT 5)) (sS 2 (xL 0) (sS 3 (ki 0) sEnd)))))
 (kBlock 0 (kLoop (kSeq (kReg (sV (oBin .lss .no (xT 3) (xT 2)) (sS 4 (xL 0) sEnd)))
 (kSeq (kCond (xT 4) kSkip
 (kExit 0))
 (kSeq (kBlock 1 (kSeq (kReg (sV (oIaddr 1 (xT 5) (xT 3)) (sV (oLoad (xL 0)) (sS 6 (xL 0) sEnd))))
 (kReg (sV (oMov (xT 7)) (sV (oBin .or .no (xL 0) (xT 6)) (sS 7 (xL 0) sEnd))))))
 (kReg (sV (oBin .add .no (xT 3) (ki 1)) (sS 3 (xL 0) sEnd)))))))))
 (kSeq (kReg (sC (cFn 182) [(xT 7)] (sS 1 (xL 0) sEnd)))
 kRet))))
theorem t127 : FF d127 Tryz.f127 a127 [(.t 1)] := ff Tryz.func127 (by kernel_rfl)
def x127 : XFn := .go a127 1 pd7 [(.t 1)]
def d128 : FD := ⟨128, 1, [2, 4, 3]⟩
def a128 : CodeF := (kSeq (kReg (sS 1 (xK (int .u64 (.ofNat 0))) sEnd))
 (kSeq (kRegC (fun k => (sV (oLenL (xT 0)) (sV (oBin .lss .no (xL 0) (ki 1)) k))) (xL 0) (kReg (sV (oMkif 9 (xK (str [115, 108, 105, 99, 101, 115, 46, 77, 105, 110, 58, 32, 101, 109, 112, 116, 121, 32, 108, 105, 115, 116]))) (sPan (xL 0))))
 kSkip)
 (kSeq (kReg (sV (oIaddr 1 (xT 0) (ki 0)) (sV (oLoad (xL 0)) (sS 3 (xL 0) sEnd))))
 (kSeq (kSeq (kReg (sS 2 (ki 1) sEnd))
 (kBlock 0 (kLoop (kSeq (kRegC (fun k => (sV (oLenL (xT 0)) (sV (oBin .lss .no (xT 2) (xL 0)) k))) (xL 0) kSkip
 (kExit 0))
 (kSeq (kBlock 1 (kReg (sV (oMov (xT 3)) (sV (oIaddr 1 (xT 0) (xT 2)) (sV (oLoad (xL 0)) (sV (oMm false (xL 2) [(xL 0)]) (sS 3 (xL 0) sEnd)))))))
 (kReg (sV (oMov (xT 2)) (sV (oBin .add .no (xL 0) (ki 1)) (sS 2 (xL 0) sEnd)))))))))
 (kSeq (kReg (sS 1 (xT 3) sEnd))
 kRet)))))
theorem t128 : FF d128 Tryz.f128 a128 [(.t 1)] := ff Tryz.func128 (by kernel_rfl)
def x128 : XFn := .go a128 1 pd3 [(.t 1)]
end
end Go.Proofs.YtkkbhkdldbjlgaaGreatDoor
