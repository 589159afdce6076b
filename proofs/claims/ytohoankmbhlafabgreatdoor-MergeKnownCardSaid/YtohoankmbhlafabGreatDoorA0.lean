import Derived.Test.YtohoankmbhlafabGreatDoorP
import Derived.Test.YtohoankmbhlafabGreatDoorProg
import Derived.KernelRfl
/- The functions of the program as the interpreter has them; each is the program's, by the kernel. -/
set_option maxRecDepth 1000000
namespace Go.Proofs.YtohoankmbhlafabGreatDoor
open Go Go.Ai AVal
noncomputable section
def d3 : FD := ⟨3, 0, [0, 1, 6, 17, 21, 19, 16, 14, 11, 12, 10, 8, 4, 5, 2, 3]⟩
def a3 : CodeF := (kSeq (kReg (sS 0 (xK (bool false)) sEnd))
 (kSeq (kReg (sC (cFn 4) [(ki 2)] (sS 1 (xL 0) sEnd)))
 (kSeq (kReg (sC (cFn 5) [(xT 1), (ki 1)] sEnd))
 (kSeq (kReg (sC (cFn 7) [] (sH (oBsl 35 1 2 [(int .u64 (.ofNat 0))] [(0, 1, (xK (int .u64 (.ofNat 3)))), (1, 1, (xK (int .u64 (.ofNat 7))))]) (sC (cFn 8) [(xL 0)] (sH (oBsl 35 1 2 [(int .u64 (.ofNat 0))] [(0, 1, (xK (int .u64 (.ofNat 5)))), (1, 1, (xK (int .u64 (.ofNat 9))))]) (sC (cFn 8) [(xL 0)] (sH (oBsl 33 1 2 [nilptr] [(0, 1, (xL 2)), (1, 1, (xL 0))]) (sC (cFn 4) [(ki 2)] (sH (oBsl 22 1 2 [nilptr] [(0, 1, (xL 0)), (1, 1, (xT 1))]) (sC (cFn 6) [(xL 7), (xL 2), (xL 0)] (sV (oExt 0 (xL 0)) (sV (oExt 1 (xL 1)) (sS 14 (xL 1) (sS 15 (xL 0) sEnd))))))))))))))
 (kSeq (kReg (sC (cFn 7) [] (sC (cFn 9) [(xL 0), (xK nils), (xK nils)] (sV (oExt 0 (xL 0)) (sV (oExt 1 (xL 1)) (sS 12 (xL 1) (sS 13 (xL 0) sEnd)))))))
 (kSeq (kReg (sH (oBsl 35 1 2 [(int .u64 (.ofNat 0))] [(0, 1, (xK (int .u64 (.ofNat 3)))), (1, 1, (xK (int .u64 (.ofNat 7))))]) (sC (cFn 8) [(xL 0)] (sS 2 (xL 0) sEnd))))
 (kSeq (kReg (sC (cFn 7) [] (sH (oBsl 33 1 1 [nilptr] [(0, 1, (xT 2))]) (sC (cFn 9) [(xL 1), (xL 0), (xK nils)] (sV (oExt 0 (xL 0)) (sV (oExt 1 (xL 1)) (sS 11 (xL 0) sEnd)))))))
 (kSeq (kReg (sC (cFn 7) [] (sH (oBsl 33 1 2 [nilptr] [(0, 1, (xT 2)), (1, 1, (xT 2))]) (sC (cFn 4) [(ki 2)] (sC (cFn 4) [(ki 2)] (sH (oBsl 22 1 2 [nilptr] [(0, 1, (xL 1)), (1, 1, (xL 0))]) (sC (cFn 9) [(xL 4), (xL 3), (xL 0)] (sV (oExt 0 (xL 0)) (sV (oExt 1 (xL 1)) (sS 10 (xL 0) sEnd))))))))))
 (kSeq (kReg (sC (cFn 7) [] (sH (oBsl 33 1 2 [nilptr] [(0, 1, (xT 2)), (1, 1, (xT 2))]) (sC (cFn 4) [(ki 2)] (sH (oBsl 22 1 2 [nilptr] [(0, 1, (xL 0)), (1, 1, (xK nilptr))]) (sC (cFn 9) [(xL 3), (xL 2), (xL 0)] (sV (oExt 0 (xL 0)) (sV (oExt 1 (xL 1)) (sS 8 (xL 1) (sS 9 (xL 0) sEnd))))))))))
 (kSeq (kReg (sV (oBuild [nils] []) (sC (cFn 9) [(xL 0), (xK nils), (xK nils)] (sV (oExt 0 (xL 0)) (sV (oExt 1 (xL 1)) (sS 7 (xL 0) sEnd))))))
 (kSeq (kReg (sC (cFn 7) [] (sH (oBsl 33 1 1 [nilptr] [(0, 1, (xK nilptr))]) (sH (oBsl 22 1 1 [nilptr] [(0, 1, (xK nilptr))]) (sC (cFn 9) [(xL 2), (xL 1), (xL 0)] (sV (oExt 0 (xL 0)) (sV (oExt 1 (xL 1)) (sS 6 (xL 0) sEnd))))))))
 (kSeq (kReg (sC (cFn 7) [] (sH (oAlloc 31 1 [nils]) (sS 3 (xL 0) (sH (oStore 1 (xT 3) (xL 1)) sEnd)))))
 (kSeq (kReg (sV (oFaddr 0 (xT 3)) (sV (oLoad (xL 0)) (sV (oIaddr 7 (xL 0) (ki 0)) (sV (oFaddr 5 (xL 0)) (sH (oStore 1 (xL 0) (xK (bool true))) sEnd))))))
 (kSeq (kReg (sV (oLoadN 1 (xT 3)) (sH (oBsl 33 1 1 [nilptr] [(0, 1, (xT 2))]) (sH (oBsl 22 1 1 [nilptr] [(0, 1, (xK nilptr))]) (sC (cFn 9) [(xL 2), (xL 1), (xL 0)] (sV (oExt 0 (xL 0)) (sV (oExt 1 (xL 1)) (sS 5 (xL 0) sEnd))))))))
 (kSeq (kReg (sC (cFn 7) [] (sH (oBsl 33 1 1 [nilptr] [(0, 1, (xT 2))]) (sC (cFn 4) [(ki 3)] (sH (oBsl 22 1 1 [nilptr] [(0, 1, (xL 0))]) (sC (cFn 9) [(xL 3), (xL 2), (xL 0)] (sV (oExt 0 (xL 0)) (sV (oExt 1 (xL 1)) (sS 4 (xL 0) sEnd)))))))))
 (kSeq (kReg (sC (cFn 10) [] (sG (xL 0) true (sV (oMov (xT 15))) (sG (xL 1) true (sV (oBin .eql .no (xL 0) (ki 0))) (sV (oPick (xL 2) (xL 0) (xK (bool false))) (sG (xL 0) true (sV (oMov (xT 14))) (sG (xL 1) true (sV (oLenL (xL 0))) (sG (xL 2) true (sV (oBin .eql .no (xL 0) (ki 2))) (sV (oPick (xL 3) (xL 0) (xK (bool false))) (sG (xL 0) true (sV (oMov (xT 14))) (sG (xL 1) true (sV (oIaddr 1 (xL 0) (ki 0))) (sG (xL 2) true (sV (oLoad (xL 0))) (sG (xL 3) true (sH (oBsl 3 1 2 [(int .i64 (.ofNat 0))] [(0, 1, (ki 0)), (1, 1, (ki 2))])) (sG (xL 4) true (sC (cFn 11) [(xL 1), (xL 0)]) (sV (oPick (xL 5) (xL 0) (xK (bool false))) (sG (xL 0) true (sV (oMov (xT 14))) (sG (xL 1) true (sV (oIaddr 1 (xL 0) (ki 1))) (sG (xL 2) true (sV (oLoad (xL 0))) (sG (xL 3) true (sH (oBsl 3 1 2 [(int .i64 (.ofNat 0))] [(0, 1, (ki 1)), (1, 1, (xK (int .i64 (.negSucc 0))))])) (sG (xL 4) true (sC (cFn 11) [(xL 1), (xL 0)]) (sV (oPick (xL 5) (xL 0) (xK (bool false))) (sG (xL 0) true (sV (oMov (xT 13))) (sG (xL 1) true (sV (oBin .eql .no (xL 0) (ki 0))) (sV (oPick (xL 2) (xL 0) (xK (bool false))) (sG (xL 0) true (sV (oMov (xT 12))) (sG (xL 1) true (sC (cFn 12) [(xL 0)]) (sG (xL 2) true (sV (oBin .eql .no (xL 0) (ki 0))) (sV (oPick (xL 3) (xL 0) (xK (bool false))) (sG (xL 0) true (sV (oMov (xT 11))) (sG (xL 1) true (sV (oBin .eql .no (xL 0) (ki 1))) (sV (oPick (xL 2) (xL 0) (xK (bool false))) (sG (xL 0) true (sV (oMov (xT 10))) (sG (xL 1) true (sV (oBin .eql .no (xL 0) (ki 1))) (sV (oPick (xL 2) (xL 0) (xK (bool false))) (sG (xL 0) true (sV (oMov (xT 9))) (sG (xL 1) true (sV (oBin .eql .no (xL 0) (ki 0))) (sV (oPick (xL 2) (xL 0) (xK (bool false))) (sG (xL 0) true (sV (oMov (xT 8))) (sG (xL 1) true (sC (cFn 14) [(xL 0)]) (sG (xL 2) true (sV (oMov (xT 2))) (sG (xL 3) true (sC (cFn 14) [(xL 0)]) (sG (xL 4) true (sC (cFn 13) [(xL 2), (xL 0)]) (sV (oPick (xL 5) (xL 0) (xK (bool false))) (sG (xL 0) true (sV (oMov (xT 7))) (sG (xL 1) true (sV (oBin .eql .no (xL 0) (ki 80))) (sV (oPick (xL 2) (xL 0) (xK (bool false))) (sG (xL 0) true (sV (oMov (xT 6))) (sG (xL 1) true (sV (oBin .eql .no (xL 0) (ki 1))) (sV (oPick (xL 2) (xL 0) (xK (bool false))) (sG (xL 0) true (sV (oMov (xT 5))) (sG (xL 1) true (sV (oBin .eql .no (xL 0) (ki 1))) (sV (oPick (xL 2) (xL 0) (xK (bool false))) (sG (xL 0) true (sV (oMov (xT 4))) (sG (xL 1) true (sV (oBin .eql .no (xL 0) (ki 1))) (sV (oPick (xL 2) (xL 0) (xK (bool false))) (sG (xL 0) true (sH (oBsl 3 1 2 [(int .i64 (.ofNat 0))] [(0, 1, (ki 5)), (1, 1, (ki 1))])) (sG (xL 1) true (sC (cFn 15) [(ki 0), (ki 0), (ki 3), (xL 0)]) (sV (oPick (xL 2) (xL 0) (xK (bool false))) (sG (xL 0) true (sH (oBsl 3 1 3 [(int .i64 (.ofNat 0))] [(0, 1, (ki 1)), (1, 1, (ki 1)), (2, 1, (ki 1))])) (sG (xL 1) true (sC (cFn 15) [(ki 0), (ki 2), (ki 2), (xL 0)]) (sV (oPick (xL 2) (xL 0) (xK (bool false))) (sG (xL 0) true (sH (oBsl 3 1 2 [(int .i64 (.ofNat 0))] [(0, 1, (ki 9000)), (1, 1, (ki 9000))])) (sG (xL 1) true (sC (cFn 15) [(ki 0), (ki 0), (ki 2), (xL 0)]) (sV (oPick (xL 2) (xL 0) (xK (bool false))) (sG (xL 0) true (sH (oBsl 3 1 2 [(int .i64 (.ofNat 0))] [(0, 1, (ki 1)), (1, 1, (ki 1))])) (sG (xL 1) true (sC (cFn 15) [(ki 0), (ki 0), (ki 1), (xL 0)]) (sV (oPick (xL 2) (xL 0) (xK (bool false))) (sG (xL 0) true (sH (oBsl 3 1 2 [(int .i64 (.ofNat 0))] [(0, 1, (ki 1)), (1, 1, (ki 1))])) (sG (xL 1) true (sC (cFn 15) [(ki 0), (ki 0), (ki 17), (xL 0)]) (sV (oPick (xL 2) (xL 0) (xK (bool false))) (sG (xL 0) true (sH (oBsl 3 1 3 [(int .i64 (.ofNat 0))] [(0, 1, (ki 4611686018427387904)), (1, 1, (ki 1)), (2, 1, (xK (int .i64 (.negSucc 4))))])) (sG (xL 1) true (sC (cFn 15) [(ki 1), (ki 3), (ki 2), (xL 0)]) (sV (oPick (xL 2) (xL 0) (xK (bool false))) (sS 0 (xL 0) sEnd))))))))))))))))))))))))))))))))))))))))))))))))))))))))))))))))))))))))))
 kRet))))))))))))))))
theorem t3 : FF d3 Tryz.f3 a3 [(.t 0)] := ff Tryz.func3 (by kernel_rfl)
def x3 : XFn := .go a3 0 pd16 [(.t 0)]
def d4 : FD := ⟨4, 1, [2, 3, 11, 12, 13, 4]⟩
def a4 : CodeF := (kSeq (kReg (sS 1 (xK nilptr) sEnd))
 (kSeq (kReg (sC (cFn 16) [(xT 0)] (sS 2 (xL 0) sEnd)))
 (kSeq (kSeq (kReg (sV (oNilc (xT 2)) (sV (oFaddr 0 (xL 0)) (sV (oLoad (xL 0)) (sV (oLenL (xL 0)) (sS 3 (xL 0) (sS 4 (ki 0) sEnd)))))))
 (kBlock 0 (kLoop (kSeq (kReg (sV (oBin .lss .no (xT 4) (xT 3)) (sS 5 (xL 0) sEnd)))
 (kSeq (kCond (xT 5) kSkip
 (kExit 0))
 (kSeq (kBlock 1 (kSeq (kReg (sS 6 (xT 4) sEnd))
 (kDraw [(.v (oMov (xT 2)), none), (.v (oNilc (xL 0)), none), (.v (oFaddr 0 (xL 0)), none), (.v (oLoad (xL 0)), none), (.v (oMov (xT 6)), none), (.v (oMov (xT 6)), none), (.v (oBin .add .no (xL 0) (ki 1)), none), (.v (oBin .mul .no (ki 64) (xL 0)), none), (.v (oMov (xT 2)), none), (.v (oNilc (xL 0)), none), (.v (oFaddr 1 (xL 0)), none), (.v (oLoad (xL 0)), none), (.v (oBin .sub .no (xL 4) (xL 0)), none), (.v (oMm true (ki 0) [(xL 0)]), none), (.v (oBin .shr .no (xK (int .u64 (.ofNat 18446744073709551615))) (xL 0)), none), (.v (oIaddr 1 (xL 11) (xL 10)), none), (.h (oStore 1 (xL 0) (xL 1)), none)] 0 [none, none, none, none, none, none, none] [])))
 (kReg (sV (oBin .add .no (xT 4) (ki 1)) (sS 4 (xL 0) sEnd)))))))))
 (kSeq (kReg (sS 1 (xT 2) sEnd))
 kRet))))
theorem t4 : FF d4 Tryz.f4 a4 [(.t 1)] := ff Tryz.func4 (by kernel_rfl)
def x4 : XFn := .go a4 1 pd6 [(.t 1)]
def d5 : FD := ⟨5, 2, []⟩
def a5 : CodeF := (kRegC (fun k => (sC (cFn 17) [(xT 0), (xT 1)] k)) (xL 0) (kDraw [(.v (oMov (xT 0)), none), (.v (oNilc (xL 0)), none), (.v (oFaddr 0 (xL 0)), none), (.v (oLoad (xL 0)), none), (.v (oMov (xT 1)), none), (.v (oBin .quo .no (xL 0) (ki 64)), none), (.v (oIaddr 1 (xL 2) (xL 0)), none), (.v (oLoad (xL 0)), none), (.v (oMov (xT 1)), none), (.v (oBin .rem .no (xL 0) (ki 64)), none), (.v (oBin .shl .no (xK (int .u64 (.ofNat 1))) (xL 0)), none), (.v (oBin .andNot .no (xL 3) (xL 0)), none), (.v (oIaddr 1 (xL 8) (xL 6)), none), (.h (oStore 1 (xL 0) (xL 1)), none)] 0 [none, none] [])
 kSkip)
theorem t5 : FF d5 Tryz.f5 a5 [] := ff Tryz.func5 (by kernel_rfl)
def x5 : XFn := .go a5 2 pd0 []
def d6 : FD := ⟨6, 3, [6, 7, 3, 9, 26, 27, 28, 25, 12, 10, 8, 40, 41, 42, 39, 13, 14]⟩
def a6 : CodeF := (kSeq (kReg (sH (oBox 31 1 (xT 0)) (sS 5 (xL 0) (sS 3 (xK nils) (sS 4 (ki 0) sEnd)))))
 (kSeq (kReg (sV (oLoadN 1 (xT 5)) (sC (cFn 18) [(xL 0), (xT 1), (xT 2)] (sV (oExt 0 (xL 0)) (sV (oExt 1 (xL 1)) (sS 13 (xL 1) (sS 6 (xL 0) sEnd)))))))
 (kSeq (kRegC (fun k => (sV (oBin .neq .no (xT 6) (ki 0)) k)) (xL 0) (kSeq (kReg (sS 3 (xK nils) (sS 4 (xT 6) sEnd)))
 kRet)
 kSkip)
 (kSeq (kReg (sS 12 (xK nils) sEnd))
 (kSeq (kSeq (kReg (sS 10 (xT 1) (sV (oLenL (xT 10)) (sS 7 (xL 0) (sS 8 (ki 0) sEnd)))))
 (kBlock 0 (kLoop (kSeq (kReg (sV (oBin .lss .no (xT 8) (xT 7)) (sS 9 (xL 0) sEnd)))
 (kSeq (kCond (xT 9) kSkip
 (kExit 0))
 (kSeq (kBlock 1 (kSeq (kReg (sV (oIaddr 1 (xT 10) (xT 8)) (sV (oLoad (xL 0)) (sS 11 (xL 0) sEnd))))
 (kReg (sV (oMov (xT 12)) (sH (oBsl 3 1 1 [(int .i64 (.ofNat 0))] [(0, 1, (xK (int .i64 (.negSucc 0))))]) (sC (cFn 12) [(xT 11)] (sC (cFn 19) [(xL 1), (xL 0)] (sH (oBsl 40 1 1 [nils] [(0, 1, (xL 0))]) (sH (oApp 40 1 (xL 4) (xL 0)) (sS 12 (xL 0) sEnd))))))))))
 (kReg (sV (oBin .add .no (xT 8) (ki 1)) (sS 8 (xL 0) sEnd)))))))))
 (kSeq (kSeq (kReg (sS 17 (xT 13) (sV (oLenL (xT 17)) (sS 14 (xL 0) (sS 15 (ki 0) sEnd)))))
 (kBlock 2 (kLoop (kSeq (kReg (sV (oBin .lss .no (xT 15) (xT 14)) (sS 16 (xL 0) sEnd)))
 (kSeq (kCond (xT 16) kSkip
 (kExit 2))
 (kSeq (kBlock 3 (kSeq (kReg (sV (oIaddr 3 (xT 17) (xT 15)) (sV (oLoadN 3 (xL 0)) (sH (oAlloc 59 3 [(int .i64 (.ofNat 0)), (int .i64 (.ofNat 0)), (int .u64 (.ofNat 0))]) (sS 19 (xL 0) (sS 18 (xT 15) (sH (oStore 3 (xT 19) (xL 1)) sEnd)))))))
 (kDraw [(.v (oMov (xT 12)), none), (.v (oFaddr 0 (xT 19)), none), (.v (oLoad (xL 0)), none), (.v (oIaddr 1 (xL 2) (xL 0)), none), (.v (oLoad (xL 0)), none), (.v (oFaddr 1 (xT 19)), none), (.v (oLoad (xL 0)), none), (.v (oMov (xT 18)), none), (.v (oIaddr 1 (xL 3) (xL 1)), none), (.h (oStore 1 (xL 0) (xL 1)), none)] 0 [none, none, none, none, none, none, none, none, none, none, none, none, none, none, none, none, none, none, none, none] [])))
 (kReg (sV (oBin .add .no (xT 15) (ki 1)) (sS 15 (xL 0) sEnd)))))))))
 (kSeq (kReg (sC (cFn 20) [(xT 12)] (sS 3 (xL 0) (sS 4 (ki 0) sEnd))))
 kRet)))))))
theorem t6 : FF d6 Tryz.f6 a6 [(.t 3), (.t 4)] := ff Tryz.func6 (by kernel_rfl)
def x6 : XFn := .go a6 3 pd17 [(.t 3), (.t 4)]
def d7 : FD := ⟨7, 0, [0]⟩
def a7 : CodeF := (kSeq (kReg (sH (oAlloc 31 1 [nils]) (sS 0 (xL 0) sEnd)))
 (kSeq (kReg (sV (oBuild [(str []), (int .i64 (.ofNat 0)), nils, (int .i64 (.ofNat 0)), (int .i64 (.ofNat 0)), (bool false), (bool false)] [(0, 1, (xK (str [107]))), (1, 1, (ki 2))]) (sH (oBsl 42 7 1 [(str []), (int .i64 (.ofNat 0)), nils, (int .i64 (.ofNat 0)), (int .i64 (.ofNat 0)), (bool false), (bool false)] [(0, 7, (xL 0))]) (sV (oBuild [nils] [(0, 1, (xL 0))]) (sH (oStore 1 (xT 0) (xL 0)) sEnd)))))
 kRet))
theorem t7 : FF d7 Tryz.f7 a7 [(.cell 0 (some 1))] := ff Tryz.func7 (by kernel_rfl)
def x7 : XFn := .go a7 0 pd1 [(.cell 0 (some 1))]
def d8 : FD := ⟨8, 1, [2, 4, 3, 5]⟩
def a8 : CodeF := (kSeq (kReg (sS 1 (xK nilptr) sEnd))
 (kSeq (kReg (sS 3 (xK nils) sEnd))
 (kSeq (kSeq (kReg (sS 2 (ki 0) sEnd))
 (kBlock 0 (kLoop (kSeq (kRegC (fun k => (sV (oLenL (xT 0)) (sV (oBin .lss .no (xT 2) (xL 0)) k))) (xL 0) kSkip
 (kExit 0))
 (kSeq (kBlock 1 (kDraw [(.v (oMov (xT 3)), none), (.v (oMov (xT 0)), none), (.v (oMov (xT 2)), none), (.v (oIaddr 1 (xL 1) (xL 0)), none), (.v (oLoad (xL 0)), none), (.v (oMov (xT 0)), none), (.v (oMov (xT 2)), none), (.v (oIaddr 1 (xL 1) (xL 0)), none), (.v (oLoad (xL 0)), none), (.v (oConv .i64 (xL 0)), none), (.c (cFn 21) [(xL 0)], none), (.v (oBuild [(str []), (str []), nils] [(0, 1, (xK (str [107]))), (1, 1, (xL 0))]), none), (.h (oBsl 65 3 1 [(str []), (str []), nils] [(0, 3, (xL 0))]), none), (.v (oBuild [nils] [(0, 1, (xL 0))]), none), (.v (oBuild [(int .u64 (.ofNat 0)), nils] [(0, 1, (xL 9)), (1, 1, (xL 0))]), none), (.h (oBsl 70 2 1 [(int .u64 (.ofNat 0)), nils] [(0, 2, (xL 0))]), none), (.h (oApp 70 2 (xL 15) (xL 0)), none), (.v (oMov (xL 0)), none)] 0 [none, none, none, (some 0), none] [(13, 7), (13, 5)]))
 (kReg (sV (oMov (xT 2)) (sV (oBin .add .no (xL 0) (ki 1)) (sS 2 (xL 0) sEnd)))))))))
 (kSeq (kReg (sC (cFn 7) [] (sC (cFn 22) [(xL 0), (xT 3)] (sV (oExt 0 (xL 0)) (sV (oExt 1 (xL 1)) (sS 4 (xL 1) sEnd))))))
 (kSeq (kReg (sS 1 (xT 4) sEnd))
 kRet)))))
theorem t8 : FF d8 Tryz.f8 a8 [(.t 1)] := ff Tryz.func8 (by kernel_rfl)
def x8 : XFn := .go a8 1 pd4 [(.t 1)]
def d9 : FD := ⟨9, 3, [6, 7, 3, 9, 8, 24, 25, 26, 23, 12, 10]⟩
def a9 : CodeF := (kSeq (kReg (sH (oBox 31 1 (xT 0)) (sS 5 (xL 0) (sS 3 (xK nilptr) (sS 4 (ki 0) sEnd)))))
 (kSeq (kReg (sV (oLoadN 1 (xT 5)) (sC (cFn 18) [(xL 0), (xT 1), (xT 2)] (sV (oExt 0 (xL 0)) (sV (oExt 1 (xL 1)) (sS 7 (xL 1) (sS 6 (xL 0) sEnd)))))))
 (kSeq (kRegC (fun k => (sV (oBin .neq .no (xT 6) (ki 0)) k)) (xL 0) (kSeq (kReg (sS 3 (xK nilptr) (sS 4 (xT 6) sEnd)))
 kRet)
 kSkip)
 (kSeq (kReg (sS 13 (xK nils) sEnd))
 (kSeq (kSeq (kReg (sS 11 (xT 7) (sV (oLenL (xT 11)) (sS 8 (xL 0) (sS 9 (ki 0) sEnd)))))
 (kBlock 0 (kLoop (kSeq (kReg (sV (oBin .lss .no (xT 9) (xT 8)) (sS 10 (xL 0) sEnd)))
 (kSeq (kCond (xT 10) kSkip
 (kExit 0))
 (kSeq (kBlock 1 (kSeq (kReg (sV (oIaddr 3 (xT 11) (xT 9)) (sV (oLoadN 3 (xL 0)) (sH (oAlloc 59 3 [(int .i64 (.ofNat 0)), (int .i64 (.ofNat 0)), (int .u64 (.ofNat 0))]) (sS 12 (xL 0) (sH (oStore 3 (xT 12) (xL 1)) sEnd))))))
 (kDraw [(.v (oMov (xT 13)), none), (.v (oMov (xT 1)), none), (.v (oFaddr 0 (xT 12)), none), (.v (oLoad (xL 0)), none), (.v (oIaddr 1 (xL 2) (xL 0)), none), (.v (oLoad (xL 0)), none), (.v (oFaddr 1 (xT 12)), none), (.v (oLoad (xL 0)), none), (.c (cFn 23) [(xL 2), (xL 0)], none), (.h (oBsl 70 2 1 [(int .u64 (.ofNat 0)), nils] [(0, 2, (xL 0))]), none), (.h (oApp 70 2 (xL 9) (xL 0)), none), (.v (oMov (xL 0)), none)] 0 [none, none, none, none, none, none, none, none, none, none, none, none, none, (some 0)] [])))
 (kReg (sV (oBin .add .no (xT 9) (ki 1)) (sS 9 (xL 0) sEnd)))))))))
 (kSeq (kReg (sV (oLoadN 1 (xT 5)) (sC (cFn 22) [(xL 0), (xT 13)] (sV (oExt 0 (xL 0)) (sV (oExt 1 (xL 1)) (sS 3 (xL 1) (sS 4 (xL 0) sEnd)))))))
 kRet))))))
theorem t9 : FF d9 Tryz.f9 a9 [(.t 3), (.t 4)] := ff Tryz.func9 (by kernel_rfl)
def x9 : XFn := .go a9 3 pd11 [(.t 3), (.t 4)]
def d10 : FD := ⟨10, 0, [0, 1, 5, 4, 2, 3]⟩
def a10 : CodeF := (kSeq (kReg (sS 0 (xK (bool false)) sEnd))
 (kSeq (kReg (sC (cFn 4) [(ki 2)] (sS 1 (xL 0) sEnd)))
 (kSeq (kReg (sC (cFn 5) [(xT 1), (ki 1)] sEnd))
 (kSeq (kReg (sC (cFn 7) [] (sH (oBsl 35 1 2 [(int .u64 (.ofNat 0))] [(0, 1, (xK (int .u64 (.ofNat 3)))), (1, 1, (xK (int .u64 (.ofNat 7))))]) (sC (cFn 8) [(xL 0)] (sH (oBsl 35 1 2 [(int .u64 (.ofNat 0))] [(0, 1, (xK (int .u64 (.ofNat 5)))), (1, 1, (xK (int .u64 (.ofNat 9))))]) (sC (cFn 8) [(xL 0)] (sH (oBsl 33 1 2 [nilptr] [(0, 1, (xL 2)), (1, 1, (xL 0))]) (sC (cFn 4) [(ki 2)] (sH (oBsl 22 1 2 [nilptr] [(0, 1, (xL 0)), (1, 1, (xT 1))]) (sC (cFn 9) [(xL 7), (xL 2), (xL 0)] (sV (oExt 0 (xL 0)) (sV (oExt 1 (xL 1)) (sS 4 (xL 1) (sS 5 (xL 0) sEnd))))))))))))))
 (kSeq (kReg (sH (oBsl 3 1 4 [(int .i64 (.ofNat 0))] [(0, 1, (ki 5)), (1, 1, (ki 1)), (2, 1, (ki 1)), (3, 1, (ki 4))]) (sC (cFn 24) [(xL 0), (ki 2)] (sV (oExt 0 (xL 0)) (sV (oExt 1 (xL 1)) (sS 3 (xL 1) (sS 2 (xL 0) sEnd)))))))
 (kSeq (kReg (sV (oBin .eql .no (xT 5) (ki 0)) (sG (xL 0) true (sV (oMov (xT 4))) (sG (xL 1) true (sC (cFn 26) [(xL 0)]) (sG (xL 2) true (sH (oBsl 35 1 3 [(int .u64 (.ofNat 0))] [(0, 1, (xK (int .u64 (.ofNat 3)))), (1, 1, (xK (int .u64 (.ofNat 5)))), (2, 1, (xK (int .u64 (.ofNat 7))))])) (sG (xL 3) true (sC (cFn 25) [(xL 1), (xL 0)]) (sV (oPick (xL 4) (xL 0) (xK (bool false))) (sG (xL 0) true (sV (oMov (xT 4))) (sG (xL 1) true (sC (cFn 14) [(xL 0)]) (sG (xL 2) true (sH (oBsl 35 1 3 [(int .u64 (.ofNat 0))] [(0, 1, (xK (int .u64 (.ofNat 3)))), (1, 1, (xK (int .u64 (.ofNat 5)))), (2, 1, (xK (int .u64 (.ofNat 7))))])) (sG (xL 3) true (sC (cFn 8) [(xL 0)]) (sG (xL 4) true (sC (cFn 14) [(xL 0)]) (sG (xL 5) true (sC (cFn 13) [(xL 3), (xL 0)]) (sV (oPick (xL 6) (xL 0) (xK (bool false))) (sG (xL 0) true (sV (oMov (xT 3))) (sG (xL 1) true (sV (oBin .eql .no (xL 0) (ki 1))) (sV (oPick (xL 2) (xL 0) (xK (bool false))) (sG (xL 0) true (sV (oMov (xT 2))) (sG (xL 1) true (sV (oBin .eql .no (xL 0) (ki 3))) (sV (oPick (xL 2) (xL 0) (xK (bool false))) (sS 0 (xL 0) sEnd)))))))))))))))))))))
 kRet))))))
theorem t10 : FF d10 Tryz.f10 a10 [(.t 0)] := ff Tryz.func10 (by kernel_rfl)
def x10 (l : List Ent) : XFn := .memo l a10 0 pd6 [(.t 0)]
def d11 : FD := ⟨11, 2, [4, 5, 25]⟩
def a11 : CodeF := (kSeq (kReg (sS 2 (xK (bool false)) sEnd))
 (kSeq (kRegC (fun k => (sV (oLenL (xT 0)) (sV (oLenL (xT 1)) (sV (oBin .neq .no (xL 1) (xL 0)) k)))) (xL 0) (kSeq (kReg (sS 2 (xK (bool false)) sEnd))
 kRet)
 kSkip)
 (kSeq (kSeq (kReg (sS 3 (ki 0) sEnd))
 (kBlock 0 (kLoop (kSeq (kRegC (fun k => (sV (oLenL (xT 0)) (sV (oBin .lss .no (xT 3) (xL 0)) k))) (xL 0) kSkip
 (kExit 0))
 (kSeq (kBlock 1 (kSeq (kDraw [(.v (oMov (xT 0)), none), (.v (oMov (xT 3)), none), (.v (oIaddr 1 (xL 1) (xL 0)), none), (.v (oLoad (xL 0)), none), (.v (oMov (xT 1)), none), (.v (oMov (xT 3)), none), (.v (oIaddr 1 (xL 1) (xL 0)), none), (.v (oLoad (xL 0)), none), (.v (oBin .neq .no (xL 4) (xL 0)), none)] 0 [none, none, none, none, (some 0)] [])
 (kCond (xT 4) (kSeq (kReg (sS 2 (xK (bool false)) sEnd))
 kRet)
 kSkip)))
 (kReg (sV (oMov (xT 3)) (sV (oBin .add .no (xL 0) (ki 1)) (sS 3 (xL 0) sEnd)))))))))
 (kSeq (kReg (sS 2 (xK (bool true)) sEnd))
 kRet))))
theorem t11 : FF d11 Tryz.f11 a11 [(.t 2)] := ff Tryz.func11 (by kernel_rfl)
def x11 : XFn := .go a11 2 pd3 [(.t 2)]
def d12 : FD := ⟨12, 1, [2]⟩
def a12 : CodeF := (kSeq (kReg (sS 1 (ki 0) sEnd))
 (kSeq (kRegC (fun k => (sV (oBin .eql .ptr (xT 0) (xK nilptr)) k)) (xL 0) (kSeq (kReg (sS 1 (ki 0) sEnd))
 kRet)
 kSkip)
 (kSeq (kReg (sV (oNilc (xT 0)) (sV (oFaddr 2 (xL 0)) (sV (oLoad (xL 0)) (sV (oLenL (xL 0)) (sS 1 (xL 0) sEnd))))))
 kRet)))
theorem t12 : FF d12 Tryz.f12 a12 [(.t 1)] := ff Tryz.func12 (by kernel_rfl)
def x12 : XFn := .go a12 1 pd1 [(.t 1)]
def d13 : FD := ⟨13, 2, [4, 5, 25]⟩
def a13 : CodeF := (kSeq (kReg (sS 2 (xK (bool false)) sEnd))
 (kSeq (kRegC (fun k => (sV (oLenL (xT 0)) (sV (oLenL (xT 1)) (sV (oBin .neq .no (xL 1) (xL 0)) k)))) (xL 0) (kSeq (kReg (sS 2 (xK (bool false)) sEnd))
 kRet)
 kSkip)
 (kSeq (kSeq (kReg (sS 3 (ki 0) sEnd))
 (kBlock 0 (kLoop (kSeq (kRegC (fun k => (sV (oLenL (xT 0)) (sV (oBin .lss .no (xT 3) (xL 0)) k))) (xL 0) kSkip
 (kExit 0))
 (kSeq (kBlock 1 (kSeq (kDraw [(.v (oMov (xT 0)), none), (.v (oMov (xT 3)), none), (.v (oIaddr 1 (xL 1) (xL 0)), none), (.v (oLoad (xL 0)), none), (.v (oMov (xT 1)), none), (.v (oMov (xT 3)), none), (.v (oIaddr 1 (xL 1) (xL 0)), none), (.v (oLoad (xL 0)), none), (.v (oBin .neq .no (xL 4) (xL 0)), none)] 0 [none, none, none, none, (some 0)] [])
 (kCond (xT 4) (kSeq (kReg (sS 2 (xK (bool false)) sEnd))
 kRet)
 kSkip)))
 (kReg (sV (oMov (xT 3)) (sV (oBin .add .no (xL 0) (ki 1)) (sS 3 (xL 0) sEnd)))))))))
 (kSeq (kReg (sS 2 (xK (bool true)) sEnd))
 kRet))))
theorem t13 : FF d13 Tryz.f13 a13 [(.t 2)] := ff Tryz.func13 (by kernel_rfl)
def x13 : XFn := .go a13 2 pd3 [(.t 2)]
def d14 : FD := ⟨14, 1, [2]⟩
def a14 : CodeF := (kSeq (kReg (sS 1 (xK nils) sEnd))
 (kSeq (kRegC (fun k => (sV (oBin .eql .ptr (xT 0) (xK nilptr)) k)) (xL 0) (kSeq (kReg (sS 1 (xK nils) sEnd))
 kRet)
 kSkip)
 (kSeq (kReg (sV (oNilc (xT 0)) (sV (oFaddr 1 (xL 0)) (sV (oLoad (xL 0)) (sC (cFn 28) [(xL 0)] (sC (cFn 27) [(xL 0)] (sS 1 (xL 0) sEnd)))))))
 kRet)))
theorem t14 : FF d14 Tryz.f14 a14 [(.t 1)] := ff Tryz.func14 (by kernel_rfl)
def x14 : XFn := .go a14 1 pd1 [(.t 1)]
def d15 : FD := ⟨15, 4, [8, 10, 9]⟩
def a15 : CodeF := (kSeq (kReg (sS 4 (xK (bool false)) sEnd))
 (kSeq (kReg (sC (cFn 24) [(xT 3), (xT 2)] (sV (oExt 0 (xL 0)) (sV (oExt 1 (xL 1)) (sS 6 (xL 1) (sS 5 (xL 0) sEnd))))))
 (kSeq (kReg (sV (oBin .eql .no (xT 6) (xT 0)) (sG (xL 0) true (sV (oMov (xT 5))) (sG (xL 1) true (sV (oMov (xT 1))) (sG (xL 2) true (sV (oBin .eql .no (xL 1) (xL 0))) (sV (oPick (xL 3) (xL 0) (xK (bool false))) (sS 4 (xL 0) sEnd)))))))
 kRet)))
theorem t15 : FF d15 Tryz.f15 a15 [(.t 4)] := ff Tryz.func15 (by kernel_rfl)
def x15 : XFn := .go a15 4 pd3 [(.t 4)]
def d16 : FD := ⟨16, 1, [2]⟩
def a16 : CodeF := (kSeq (kReg (sS 1 (xK nilptr) sEnd))
 (kSeq (kReg (sV (oMov (xT 0)) (sV (oMm false (xL 0) [(ki 16384)]) (sV (oMm true (ki 0) [(xL 0)]) (sS 0 (xL 0) sEnd)))))
 (kSeq (kReg (sV (oBin .add .no (xT 0) (ki 63)) (sV (oBin .quo .no (xL 0) (ki 64)) (sH (oMksl 35 1 [(int .u64 (.ofNat 0))] (xL 0) (xL 0)) (sV (oBuild [nils, (int .i64 (.ofNat 0))] [(0, 1, (xL 0)), (1, 1, (xT 0))]) (sH (oBox 52 2 (xL 0)) (sS 1 (xL 0) sEnd)))))))
 kRet)))
theorem t16 : FF d16 Tryz.f16 a16 [(.t 1)] := ff Tryz.func16 (by kernel_rfl)
def x16 : XFn := .go a16 1 pd1 [(.t 1)]
def d17 : FD := ⟨17, 2, [4]⟩
def a17 : CodeF := (kSeq (kReg (sS 2 (xK (bool false)) sEnd))
 (kSeq (kReg (sV (oBin .neq .ptr (xT 0) (xK nilptr)) (sG (xL 0) true (sV (oMov (xT 1))) (sG (xL 1) true (sV (oBin .geq .no (xL 0) (ki 0))) (sV (oPick (xL 2) (xL 0) (xK (bool false))) (sG (xL 0) true (sV (oMov (xT 1))) (sG (xL 1) true (sV (oMov (xT 0))) (sG (xL 2) true (sV (oNilc (xL 0))) (sG (xL 3) true (sV (oFaddr 1 (xL 0))) (sG (xL 4) true (sV (oLoad (xL 0))) (sG (xL 5) true (sV (oBin .lss .no (xL 4) (xL 0))) (sV (oPick (xL 6) (xL 0) (xK (bool false))) (sS 2 (xL 0) sEnd)))))))))))))
 kRet))
theorem t17 : FF d17 Tryz.f17 a17 [(.t 2)] := ff Tryz.func17 (by kernel_rfl)
def x17 : XFn := .go a17 2 pd1 [(.t 2)]
def d18 : FD := ⟨18, 3, [6, 7, 3, 21, 22, 23, 20, 9, 8, 52, 10, 59, 60, 61, 11, 78]⟩
def a18 : CodeF := (kSeq (kReg (sH (oBox 31 1 (xT 0)) (sS 5 (xL 0) (sS 3 (xK nils) (sS 4 (ki 0) sEnd)))))
 (kSeq (kRegC (fun k => (sV (oLoadN 1 (xT 5)) (sC (cFn 29) [(xL 0)] (sV (oBin .neq .no (xL 0) (ki 0)) k)))) (xL 0) (kSeq (kReg (sS 3 (xK nils) (sS 4 (ki 80) sEnd)))
 kRet)
 kSkip)
 (kSeq (kRegC (fun k => (sV (oLenL (xT 1)) (sV (oLenL (xT 2)) (sV (oBin .neq .no (xL 1) (xL 0)) k)))) (xL 0) (kSeq (kReg (sS 3 (xK nils) (sS 4 (ki 1) sEnd)))
 kRet)
 kSkip)
 (kSeq (kSeq (kReg (sS 9 (xT 1) (sV (oLenL (xT 9)) (sS 6 (xL 0) (sS 7 (ki 0) sEnd)))))
 (kBlock 0 (kLoop (kSeq (kReg (sV (oBin .lss .no (xT 7) (xT 6)) (sS 8 (xL 0) sEnd)))
 (kSeq (kCond (xT 8) kSkip
 (kExit 0))
 (kSeq (kBlock 1 (kSeq (kReg (sV (oIaddr 1 (xT 9) (xT 7)) (sV (oLoad (xL 0)) (sS 11 (xT 7) (sS 10 (xL 0) sEnd)))))
 (kSeq (kDraw [(.v (oMov (xT 10)), none), (.v (oBin .eql .ptr (xL 0) (xK nilptr)), none), (.v (oMov (xL 0)), none), (.v (oMov (xT 10)), (some ((xL 0), false))), (.c (cFn 31) [(xL 0)], (some ((xL 1), false))), (.v (oLoadN 1 (xT 5)), (some ((xL 2), false))), (.c (cFn 30) [(xL 1), (xL 0)], (some ((xL 3), false))), (.v (oUn .not (xL 0)), (some ((xL 4), false))), (.v (oPick (xL 5) (xK (bool true)) (xL 0)), none), (.v (oMov (xL 0)), none), (.v (oMov (xT 2)), (some ((xL 0), false))), (.v (oMov (xT 11)), (some ((xL 1), false))), (.v (oIaddr 1 (xL 1) (xL 0)), (some ((xL 2), false))), (.v (oLoad (xL 0)), (some ((xL 3), false))), (.v (oBin .neq .ptr (xL 0) (xK nilptr)), (some ((xL 4), false))), (.v (oMov (xL 0)), (some ((xL 5), false))), (.v (oMov (xT 2)), (some ((xL 0), true))), (.v (oMov (xT 11)), (some ((xL 1), true))), (.v (oIaddr 1 (xL 1) (xL 0)), (some ((xL 2), true))), (.v (oLoad (xL 0)), (some ((xL 3), true))), (.c (cFn 32) [(xL 0)], (some ((xL 4), true))), (.v (oMov (xT 10)), (some ((xL 5), true))), (.c (cFn 12) [(xL 0)], (some ((xL 6), true))), (.v (oBin .neq .no (xL 2) (xL 0)), (some ((xL 7), true))), (.v (oPick (xL 8) (xL 0) (xK (bool false))), (some ((xL 14), false))), (.v (oPick (xL 15) (xK (bool true)) (xL 0)), none)] 0 [none, none, none, none, none, none, none, none, none, none, none, none, (some 0), none, none, none, none, none, none] [(20, 21)])
 (kCond (xT 12) (kSeq (kReg (sS 3 (xK nils) (sS 4 (ki 1) sEnd)))
 kRet)
 kSkip))))
 (kReg (sV (oBin .add .no (xT 7) (ki 1)) (sS 7 (xL 0) sEnd)))))))))
 (kSeq (kReg (sC (cFn 34) [(xT 1), (xT 2)] (sC (cFn 33) [(xL 0)] (sS 13 (xL 0) sEnd))))
 (kSeq (kSeq (kReg (sV (oLenL (xT 13)) (sS 14 (xL 0) (sS 15 (ki 0) sEnd))))
 (kBlock 2 (kLoop (kSeq (kReg (sV (oBin .lss .no (xT 15) (xT 14)) (sS 16 (xL 0) sEnd)))
 (kSeq (kCond (xT 16) kSkip
 (kExit 2))
 (kSeq (kBlock 3 (kSeq (kReg (sS 17 (xT 15) sEnd))
 (kSeq (kDraw [(.v (oMov (xT 17)), none), (.v (oBin .gtr .no (xL 0) (ki 0)), none), (.v (oMov (xL 0)), none), (.v (oMov (xT 13)), (some ((xL 0), true))), (.v (oMov (xT 17)), (some ((xL 1), true))), (.v (oBin .sub .no (xL 0) (ki 1)), (some ((xL 2), true))), (.v (oIaddr 3 (xL 2) (xL 0)), (some ((xL 3), true))), (.v (oFaddr 2 (xL 0)), (some ((xL 4), true))), (.v (oLoad (xL 0)), (some ((xL 5), true))), (.v (oMov (xT 13)), (some ((xL 6), true))), (.v (oMov (xT 17)), (some ((xL 7), true))), (.v (oIaddr 3 (xL 1) (xL 0)), (some ((xL 8), true))), (.v (oFaddr 2 (xL 0)), (some ((xL 9), true))), (.v (oLoad (xL 0)), (some ((xL 10), true))), (.v (oBin .eql .no (xL 5) (xL 0)), (some ((xL 11), true))), (.v (oPick (xL 12) (xL 0) (xK (bool false))), none)] 0 [none, none, none, none, none, none, none, none, none, none, none, none, none, none, none, none, none, none, (some 0)] [])
 (kCond (xT 18) (kSeq (kReg (sS 3 (xK nils) (sS 4 (ki 1) sEnd)))
 kRet)
 kSkip))))
 (kReg (sV (oBin .add .no (xT 15) (ki 1)) (sS 15 (xL 0) sEnd)))))))))
 (kSeq (kRegC (fun k => (sV (oLenL (xT 13)) (sV (oBin .gtr .no (xL 0) (ki 16384)) k))) (xL 0) (kSeq (kReg (sS 3 (xK nils) (sS 4 (ki 3) sEnd)))
 kRet)
 kSkip)
 (kSeq (kReg (sS 3 (xT 13) (sS 4 (ki 0) sEnd)))
 kRet))))))))
theorem t18 : FF d18 Tryz.f18 a18 [(.t 3), (.t 4)] := ff Tryz.func18 (by kernel_rfl)
def x18 : XFn := .go a18 3 pd16 [(.t 3), (.t 4)]
def d19 : FD := ⟨19, 2, [4, 6, 5, 7, 8]⟩
def a19 : CodeF := (kSeq (kReg (sS 2 (xK nils) sEnd))
 (kSeq (kRegC (fun k => (sV (oBin .lss .no (xT 1) (ki 0)) k)) (xL 0) (kReg (sV (oMkif 9 (xK (str [99, 97, 110, 110, 111, 116, 32, 98, 101, 32, 110, 101, 103, 97, 116, 105, 118, 101]))) (sPan (xL 0))))
 kSkip)
 (kSeq (kReg (sV (oLenL (xT 0)) (sV (oConv .u64 (xL 0)) (sV (oConv .u64 (xT 1)) (sC (cFn 35) [(xL 1), (xL 0)] (sV (oExt 0 (xL 0)) (sV (oExt 1 (xL 1)) (sS 4 (xL 1) (sS 3 (xL 0) sEnd)))))))))
 (kSeq (kRegC (fun k => (sV (oBin .gtr .no (xT 4) (xK (int .u64 (.ofNat 0)))) (sG (xL 0) false (sV (oMov (xT 3))) (sG (xL 1) false (sV (oBin .gtr .no (xL 0) (xK (int .u64 (.ofNat 9223372036854775807))))) (sV (oPick (xL 2) (xK (bool true)) (xL 0)) k))))) (xL 0) (kReg (sV (oMkif 9 (xK (str [116, 104, 101, 32, 114, 101, 115, 117, 108, 116, 32, 111, 102, 32, 40, 108, 101, 110, 40, 120, 41, 32, 42, 32, 99, 111, 117, 110, 116, 41, 32, 111, 118, 101, 114, 102, 108, 111, 119, 115]))) (sPan (xL 0))))
 kSkip)
 (kSeq (kReg (sV (oConv .i64 (xT 3)) (sH (oMksl 3 1 [(int .i64 (.ofNat 0))] (xL 0) (xL 0)) (sS 5 (xL 0) sEnd))))
 (kSeq (kReg (sH (oCopy 1 (xT 5) (xT 0)) (sS 6 (xL 0) sEnd)))
 (kSeq (kBlock 0 (kLoop (kSeq (kRegC (fun k => (sV (oLenL (xT 5)) (sV (oBin .lss .no (xT 6) (xL 0)) k))) (xL 0) kSkip
 (kExit 0))
 (kBlock 1 (kDraw [(.v (oMov (xT 6)), none), (.v (oMov (xT 5)), none), (.v (oMov (xT 6)), none), (.v (oSlc 1 (xL 1) (some (xL 0)) none none), none), (.v (oMov (xT 5)), none), (.v (oMov (xT 6)), none), (.v (oSlc 1 (xL 1) none (some (xL 0)) none), none), (.h (oCopy 1 (xL 3) (xL 0)), none), (.v (oBin .add .no (xL 7) (xL 0)), none), (.v (oMov (xL 0)), none)] 0 [none, none, none, none, none, none, (some 0)] [])))))
 (kSeq (kReg (sS 2 (xT 5) sEnd))
 kRet))))))))
theorem t19 : FF d19 Tryz.f19 a19 [(.t 2)] := ff Tryz.func19 (by kernel_rfl)
def x19 : XFn := .go a19 2 pd5 [(.t 2)]
def d20 : FD := ⟨20, 1, [2]⟩
def a20 : CodeF := (kSeq (kReg (sS 1 (xK nils) sEnd))
 (kSeq (kReg (sV (oLenL (xT 0)) (sV (oLenL (xT 0)) (sV (oSlc 1 (xT 0) none (some (xL 1)) (some (xL 0))) (sS 1 (xL 0) sEnd)))))
 kRet))
theorem t20 : FF d20 Tryz.f20 a20 [(.t 1)] := ff Tryz.func20 (by kernel_rfl)
def x20 : XFn := .go a20 1 pd1 [(.t 1)]
def d21 : FD := ⟨21, 1, [2]⟩
def a21 : CodeF := (kSeq (kReg (sS 1 (xK (str [])) sEnd))
 (kSeq (kReg (sV (oConv .u8 (xT 0)) (sV (oBin .shr .no (xT 0) (xK (int .u64 (.ofNat 8)))) (sV (oConv .u8 (xL 0)) (sV (oBin .shr .no (xT 0) (xK (int .u64 (.ofNat 16)))) (sV (oConv .u8 (xL 0)) (sH (oBsl 5 1 4 [(int .u8 (.ofNat 0))] [(0, 1, (xL 4)), (1, 1, (xL 2)), (2, 1, (xL 0)), (3, 1, (xK (int .u8 (.ofNat 77))))]) (sV (oB2s (xL 0)) (sS 1 (xL 0) sEnd)))))))))
 kRet))
theorem t21 : FF d21 Tryz.f21 a21 [(.t 1)] := ff Tryz.func21 (by kernel_rfl)
def x21 : XFn := .go a21 1 pd1 [(.t 1)]
def d22 : FD := ⟨22, 2, [4, 5, 2, 6]⟩
def a22 : CodeF := (kSeq (kReg (sH (oBox 31 1 (xT 0)) (sS 4 (xL 0) (sH (oAlloc 33 1 [nilptr]) (sS 2 (xL 0) (sH (oAlloc 26 1 [(int .i64 (.ofNat 0))]) (sS 3 (xL 0) sEnd)))))))
 (kSeq (kReg (sDef (xK (.func (.func 36) [] [])) [(xT 2), (xT 3)] sEnd))
 (kSeq (kReg (sV (oLoadN 1 (xT 4)) (sC (cFn 38) [(xL 0), (xT 1)] (sV (oExt 0 (xL 0)) (sV (oExt 1 (xL 1)) (sC (cFn 37) [(xL 1), (xL 0)] (sS 5 (xL 0) sEnd)))))))
 (kSeq (kDraw [(.v (oLoadN 1 (xT 4)), none), (.v (oLoadN 1 (xT 4)), none), (.v (oMov (xT 5)), none), (.c (cFn 40) [(xL 1), (xL 0)], none), (.c (cFn 39) [(xL 3), (xL 0)], none), (.h (oStore 1 (xT 2) (xL 0)), none), (.h (oStore 1 (xT 3) (ki 0)), none)] 0 [none, none, none, none, none, none] [(6, 3)])
 kRet))))
theorem t22 : FF d22 Tryz.f22 a22 [(.cell 2 none), (.cell 3 none)] := ff Tryz.func22 (by kernel_rfl)
def x22 (l : List Ent) : XFn := .memo l a22 2 pd4 [(.cell 2 none), (.cell 3 none)]
def d23 : FD := ⟨23, 2, [4]⟩
def a23 : CodeF := (kSeq (kReg (sH (oAlloc 70 2 [(int .u64 (.ofNat 0)), nils]) (sS 2 (xL 0) sEnd)))
 (kSeq (kRegC (fun k => (sV (oBin .lss .no (xT 1) (ki 0)) (sG (xL 0) false (sV (oMov (xT 1))) (sG (xL 1) false (sV (oMov (xT 0))) (sG (xL 2) false (sC (cFn 12) [(xL 0)]) (sG (xL 3) false (sV (oBin .geq .no (xL 2) (xL 0))) (sV (oPick (xL 4) (xK (bool true)) (xL 0)) k))))))) (xL 0) (kSeq (kReg (sV (oBuild [(int .u64 (.ofNat 0)), nils] []) (sH (oStore 2 (xT 2) (xL 0)) sEnd)))
 kRet)
 kSkip)
 (kSeq (kDraw [(.v (oMov (xT 0)), none), (.v (oNilc (xL 0)), none), (.v (oFaddr 2 (xL 0)), none), (.v (oLoad (xL 0)), none), (.v (oMov (xT 1)), none), (.v (oIaddr 1 (xL 1) (xL 0)), none), (.v (oLoad (xL 0)), none), (.v (oMov (xT 0)), none), (.v (oNilc (xL 0)), none), (.v (oFaddr 3 (xL 0)), none), (.v (oLoad (xL 0)), none), (.v (oMov (xT 1)), none), (.c (cFn 41) [(xL 1), (xL 0)], none), (.v (oBuild [nils] [(0, 1, (xL 0))]), none), (.v (oBuild [(int .u64 (.ofNat 0)), nils] [(0, 1, (xL 7)), (1, 1, (xL 0))]), none), (.h (oStore 2 (xT 2) (xL 0)), none)] 0 [none, none, none] [(12, 3), (9, 3)])
 kRet)))
theorem t23 : FF d23 Tryz.f23 a23 [(.cell 2 (some 2))] := ff Tryz.func23 (by kernel_rfl)
def x23 : XFn := .go a23 2 pd1 [(.cell 2 (some 2))]
def d24 : FD := ⟨24, 2, [4, 5, 8, 32, 33, 34, 31, 11, 9, 6, 7]⟩
def a24 : CodeF := (kSeq (kReg (sS 2 (ki 0) (sS 3 (ki 0) sEnd)))
 (kSeq (kRegC (fun k => (sV (oBin .lss .no (xT 1) (ki 2)) (sG (xL 0) false (sV (oMov (xT 1))) (sG (xL 1) false (sV (oBin .gtr .no (xL 0) (ki 16))) (sV (oPick (xL 2) (xK (bool true)) (xL 0)) k))))) (xL 0) (kSeq (kReg (sS 2 (ki 0) (sS 3 (ki 0) sEnd)))
 kRet)
 kSkip)
 (kSeq (kReg (sS 11 (ki 16385) (sS 12 (xK (int .i64 (.negSucc 0))) sEnd)))
 (kSeq (kSeq (kReg (sS 4 (ki 0) sEnd))
 (kBlock 0 (kLoop (kSeq (kRegC (fun k => (sV (oBin .add .no (xT 4) (xT 1)) (sV (oLenL (xT 0)) (sV (oBin .leq .no (xL 1) (xL 0)) k)))) (xL 0) kSkip
 (kExit 0))
 (kSeq (kBlock 1 (kSeq (kReg (sS 10 (ki 0) sEnd))
 (kSeq (kSeq (kReg (sV (oBin .add .no (xT 4) (xT 1)) (sV (oSlc 1 (xT 0) (some (xT 4)) (some (xL 0)) none) (sS 8 (xL 0) (sV (oLenL (xT 8)) (sS 5 (xL 0) (sS 6 (ki 0) sEnd)))))))
 (kBlock 2 (kLoop (kSeq (kReg (sV (oBin .lss .no (xT 6) (xT 5)) (sS 7 (xL 0) sEnd)))
 (kSeq (kCond (xT 7) kSkip
 (kExit 2))
 (kSeq (kBlock 3 (kSeq (kReg (sV (oIaddr 1 (xT 8) (xT 6)) (sV (oLoad (xL 0)) (sS 9 (xL 0) sEnd))))
 (kReg (sV (oMov (xT 10)) (sV (oMm true (xT 9) [(ki 0)]) (sV (oMm false (xL 0) [(ki 16385)]) (sV (oBin .add .no (xL 2) (xL 0)) (sS 10 (xL 0) sEnd))))))))
 (kReg (sV (oBin .add .no (xT 6) (ki 1)) (sS 6 (xL 0) sEnd)))))))))
 (kRegC (fun k => (sV (oBin .lss .no (xT 10) (xT 11)) k)) (xL 0) (kReg (sS 11 (xT 10) (sS 12 (xT 4) sEnd)))
 kSkip))))
 (kReg (sV (oMov (xT 4)) (sV (oBin .add .no (xL 0) (ki 1)) (sS 4 (xL 0) sEnd)))))))))
 (kSeq (kRegC (fun k => (sV (oBin .lss .no (xT 12) (ki 0)) k)) (xL 0) (kSeq (kReg (sS 2 (ki 0) (sS 3 (ki 0) sEnd)))
 kRet)
 kSkip)
 (kSeq (kReg (sV (oBin .add .no (xT 12) (xT 1)) (sS 2 (xT 12) (sS 3 (xL 0) sEnd))))
 kRet))))))
theorem t24 : FF d24 Tryz.f24 a24 [(.t 2), (.t 3)] := ff Tryz.func24 (by kernel_rfl)
def x24 : XFn := .go a24 2 pd11 [(.t 2), (.t 3)]
def d25 : FD := ⟨25, 2, [4, 5, 25]⟩
def a25 : CodeF := (kSeq (kReg (sS 2 (xK (bool false)) sEnd))
 (kSeq (kRegC (fun k => (sV (oLenL (xT 0)) (sV (oLenL (xT 1)) (sV (oBin .neq .no (xL 1) (xL 0)) k)))) (xL 0) (kSeq (kReg (sS 2 (xK (bool false)) sEnd))
 kRet)
 kSkip)
 (kSeq (kSeq (kReg (sS 3 (ki 0) sEnd))
 (kBlock 0 (kLoop (kSeq (kRegC (fun k => (sV (oLenL (xT 0)) (sV (oBin .lss .no (xT 3) (xL 0)) k))) (xL 0) kSkip
 (kExit 0))
 (kSeq (kBlock 1 (kSeq (kDraw [(.v (oMov (xT 0)), none), (.v (oMov (xT 3)), none), (.v (oIaddr 1 (xL 1) (xL 0)), none), (.v (oLoad (xL 0)), none), (.v (oMov (xT 1)), none), (.v (oMov (xT 3)), none), (.v (oIaddr 1 (xL 1) (xL 0)), none), (.v (oLoad (xL 0)), none), (.v (oBin .neq .no (xL 4) (xL 0)), none)] 0 [none, none, none, none, (some 0)] [])
 (kCond (xT 4) (kSeq (kReg (sS 2 (xK (bool false)) sEnd))
 kRet)
 kSkip)))
 (kReg (sV (oMov (xT 3)) (sV (oBin .add .no (xL 0) (ki 1)) (sS 3 (xL 0) sEnd)))))))))
 (kSeq (kReg (sS 2 (xK (bool true)) sEnd))
 kRet))))
theorem t25 : FF d25 Tryz.f25 a25 [(.t 2)] := ff Tryz.func25 (by kernel_rfl)
def x25 : XFn := .go a25 2 pd3 [(.t 2)]
def d26 : FD := ⟨26, 1, [2]⟩
def a26 : CodeF := (kSeq (kReg (sS 1 (xK nils) sEnd))
 (kSeq (kRegC (fun k => (sV (oBin .eql .ptr (xT 0) (xK nilptr)) k)) (xL 0) (kSeq (kReg (sS 1 (xK nils) sEnd))
 kRet)
 kSkip)
 (kSeq (kReg (sV (oNilc (xT 0)) (sV (oFaddr 2 (xL 0)) (sV (oLoad (xL 0)) (sC (cFn 43) [(xL 0)] (sC (cFn 42) [(xL 0)] (sS 1 (xL 0) sEnd)))))))
 kRet)))
theorem t26 : FF d26 Tryz.f26 a26 [(.t 1)] := ff Tryz.func26 (by kernel_rfl)
def x26 : XFn := .go a26 1 pd1 [(.t 1)]
def d27 : FD := ⟨27, 1, [2]⟩
def a27 : CodeF := (kSeq (kReg (sS 1 (xK nils) sEnd))
 (kSeq (kReg (sV (oLenL (xT 0)) (sV (oLenL (xT 0)) (sV (oSlc 1 (xT 0) none (some (xL 1)) (some (xL 0))) (sS 1 (xL 0) sEnd)))))
 kRet))
theorem t27 : FF d27 Tryz.f27 a27 [(.t 1)] := ff Tryz.func27 (by kernel_rfl)
def x27 : XFn := .go a27 1 pd1 [(.t 1)]
def d28 : FD := ⟨28, 1, [2]⟩
def a28 : CodeF := (kSeq (kReg (sS 1 (xK nils) sEnd))
 (kSeq (kRegC (fun k => (sV (oBin .eql .slice (xT 0) (xK nils)) k)) (xL 0) (kSeq (kReg (sS 1 (xK nils) sEnd))
 kRet)
 kSkip)
 (kSeq (kReg (sH (oBsl 5 1 0 [(int .u8 (.ofNat 0))] []) (sH (oApp 5 1 (xL 0) (xT 0)) (sS 1 (xL 0) sEnd))))
 kRet)))
theorem t28 : FF d28 Tryz.f28 a28 [(.t 1)] := ff Tryz.func28 (by kernel_rfl)
def x28 : XFn := .go a28 1 pd1 [(.t 1)]
def d29 : FD := ⟨29, 1, [2, 1, 19, 20, 21, 18, 4, 3, 5]⟩
def a29 : CodeF := (kSeq (kReg (sH (oBox 31 1 (xT 0)) (sS 2 (xL 0) (sS 1 (ki 0) sEnd))))
 (kSeq (kRegC (fun k => (sV (oFaddr 0 (xT 2)) (sV (oLoad (xL 0)) (sV (oLenL (xL 0)) (sV (oBin .lss .no (xL 0) (ki 1)) (sG (xL 0) false (sV (oFaddr 0 (xT 2))) (sG (xL 1) false (sV (oLoad (xL 0))) (sG (xL 2) false (sV (oLenL (xL 0))) (sG (xL 3) false (sV (oBin .gtr .no (xL 0) (ki 16))) (sV (oPick (xL 4) (xK (bool true)) (xL 0)) k)))))))))) (xL 0) (kSeq (kReg (sS 1 (ki 80) sEnd))
 kRet)
 kSkip)
 (kSeq (kSeq (kReg (sV (oFaddr 0 (xT 2)) (sV (oLoad (xL 0)) (sS 6 (xL 0) (sV (oLenL (xT 6)) (sS 3 (xL 0) (sS 4 (ki 0) sEnd)))))))
 (kBlock 0 (kLoop (kSeq (kReg (sV (oBin .lss .no (xT 4) (xT 3)) (sS 5 (xL 0) sEnd)))
 (kSeq (kCond (xT 5) kSkip
 (kExit 0))
 (kSeq (kBlock 1 (kSeq (kReg (sV (oIaddr 7 (xT 6) (xT 4)) (sV (oLoadN 7 (xL 0)) (sH (oAlloc 42 7 [(str []), (int .i64 (.ofNat 0)), nils, (int .i64 (.ofNat 0)), (int .i64 (.ofNat 0)), (bool false), (bool false)]) (sS 7 (xL 0) (sS 8 (xT 4) (sH (oStore 7 (xT 7) (xL 1)) sEnd)))))))
 (kSeq (kReg (sV (oLoadN 1 (xT 2)) (sV (oFaddr 0 (xT 7)) (sV (oLoad (xL 0)) (sC (cFn 44) [(xL 2), (xL 0)] (sV (oExt 0 (xL 0)) (sV (oExt 1 (xL 1)) (sS 9 (xL 1) sEnd))))))))
 (kRegC (fun k => (sV (oBin .neq .no (xT 9) (xT 8)) (sG (xL 0) false (sV (oLoadN 7 (xT 7))) (sG (xL 1) false (sC (cFn 45) [(xL 0)]) (sG (xL 2) false (sV (oUn .not (xL 0))) (sV (oPick (xL 3) (xK (bool true)) (xL 0)) k)))))) (xL 0) (kSeq (kReg (sS 1 (ki 80) sEnd))
 kRet)
 kSkip))))
 (kReg (sV (oBin .add .no (xT 4) (ki 1)) (sS 4 (xL 0) sEnd)))))))))
 (kSeq (kReg (sS 1 (ki 0) sEnd))
 kRet))))
theorem t29 : FF d29 Tryz.f29 a29 [(.t 1)] := ff Tryz.func29 (by kernel_rfl)
def x29 : XFn := .go a29 1 pd9 [(.t 1)]
def d30 : FD := ⟨30, 2, [4, 3, 2]⟩
def a30 : CodeF := (kSeq (kReg (sH (oBox 31 1 (xT 0)) (sS 4 (xL 0) (sH (oBox 31 1 (xT 1)) (sS 3 (xL 0) (sS 2 (xK (bool false)) sEnd))))))
 (kSeq (kReg (sV (oFaddr 0 (xT 4)) (sV (oLoad (xL 0)) (sV (oFaddr 0 (xT 3)) (sV (oLoad (xL 0)) (sC (cFn 46) [(xL 2), (xL 0), (xK (.func (.func 47) [] []))] (sS 2 (xL 0) sEnd)))))))
 kRet))
theorem t30 : FF d30 Tryz.f30 a30 [(.t 2)] := ff Tryz.func30 (by kernel_rfl)
def x30 : XFn := .go a30 2 pd3 [(.t 2)]
def d31 : FD := ⟨31, 1, [2]⟩
def a31 : CodeF := (kSeq (kReg (sH (oAlloc 31 1 [nils]) (sS 1 (xL 0) sEnd)))
 (kSeq (kRegC (fun k => (sV (oBin .eql .ptr (xT 0) (xK nilptr)) k)) (xL 0) (kSeq (kReg (sV (oBuild [nils] []) (sH (oStore 1 (xT 1) (xL 0)) sEnd)))
 kRet)
 kSkip)
 (kSeq (kReg (sV (oNilc (xT 0)) (sV (oFaddr 0 (xL 0)) (sV (oLoadN 1 (xL 0)) (sC (cFn 49) [(xL 0)] (sH (oStore 1 (xT 1) (xL 0)) sEnd))))))
 kRet)))
theorem t31 : FF d31 Tryz.f31 a31 [(.cell 1 (some 1))] := ff Tryz.func31 (by kernel_rfl)
def x31 : XFn := .go a31 1 pd1 [(.cell 1 (some 1))]
def d32 : FD := ⟨32, 1, [2]⟩
def a32 : CodeF := (kSeq (kReg (sS 1 (ki 0) sEnd))
 (kSeq (kRegC (fun k => (sV (oBin .eql .ptr (xT 0) (xK nilptr)) k)) (xL 0) (kSeq (kReg (sS 1 (ki 0) sEnd))
 kRet)
 kSkip)
 (kSeq (kReg (sV (oNilc (xT 0)) (sV (oFaddr 1 (xL 0)) (sV (oLoad (xL 0)) (sS 1 (xL 0) sEnd)))))
 kRet)))
theorem t32 : FF d32 Tryz.f32 a32 [(.t 1)] := ff Tryz.func32 (by kernel_rfl)
def x32 : XFn := .go a32 1 pd1 [(.t 1)]
def d33 : FD := ⟨33, 1, [2]⟩
def a33 : CodeF := (kSeq (kReg (sS 1 (xK nils) sEnd))
 (kSeq (kReg (sC (cFn 50) [(xK nils), (xT 0)] (sS 1 (xL 0) sEnd)))
 kRet))
theorem t33 : FF d33 Tryz.f33 a33 [(.t 1)] := ff Tryz.func33 (by kernel_rfl)
def x33 : XFn := .go a33 1 pd1 [(.t 1)]
def d34 : FD := ⟨34, 2, [4, 3, 2]⟩
def a34 : CodeF := (kSeq (kReg (sH (oBox 36 1 (xT 0)) (sS 4 (xL 0) (sH (oBox 37 1 (xT 1)) (sS 3 (xL 0) (sS 2 (xK nilfunc) sEnd))))))
 (kSeq (kReg (sV (oMkfn 51 [] [(xT 4), (xT 3)]) (sS 2 (xL 0) sEnd)))
 kRet))
theorem t34 : FF d34 Tryz.f34 a34 [(.t 2)] := ff Tryz.func34 (by kernel_rfl)
def x34 : XFn := .go a34 2 pd3 [(.t 2)]
def d35 : FD := ⟨35, 2, [4, 5, 7, 6, 9, 8]⟩
def a35 : CodeF := (kSeq (kReg (sS 2 (xK (int .u64 (.ofNat 0))) (sS 3 (xK (int .u64 (.ofNat 0))) sEnd)))
 (kSeq (kCond (xK (bool false)) (kSeq (kReg (sV (oConv .u32 (xT 0)) (sV (oConv .u32 (xT 1)) (sC (cFn 57) [(xL 1), (xL 0)] (sV (oExt 0 (xL 0)) (sV (oExt 1 (xL 1)) (sS 5 (xL 1) (sS 4 (xL 0) sEnd))))))))
 (kSeq (kReg (sV (oConv .u64 (xT 5)) (sV (oConv .u64 (xT 4)) (sS 2 (xL 1) (sS 3 (xL 0) sEnd)))))
 kRet))
 kSkip)
 (kSeq (kReg (sC (cFn 58) [(xT 0), (xT 1)] (sV (oExt 0 (xL 0)) (sV (oExt 1 (xL 1)) (sS 7 (xL 1) (sS 6 (xL 0) sEnd))))))
 (kSeq (kReg (sS 2 (xT 7) (sS 3 (xT 6) sEnd)))
 kRet))))
theorem t35 : FF d35 Tryz.f35 a35 [(.t 2), (.t 3)] := ff Tryz.func35 (by kernel_rfl)
def x35 : XFn := .go a35 2 pd6 [(.t 2), (.t 3)]
def d36 : FD := ⟨36, 2, [7, 12, 5, 6]⟩
def a36 : CodeF := (kSeq (kReg (sRec (sS 2 (xL 0) sEnd)))
 (kBlock 0 (kRegC (fun k => (sV (oBin .eql (.iface true) (xT 2) (xK nilif)) k)) (xL 0) (kReg sEnd)
 (kRegC (fun k => (sV (oTass 128 (agg [(int .i64 (.ofNat 0))]) (xT 2)) (sV (oExt 1 (xL 0)) (sV (oExt 0 (xL 1)) (sS 3 (xL 0) k))))) (xL 1) (kSeq (kReg (sH (oAlloc 128 1 [(int .i64 (.ofNat 0))]) (sS 4 (xL 0) (sH (oStore 1 (xT 4) (xT 3)) sEnd))))
 (kDraw [(.v (oMov (xT 0)), none), (.v (oMov (xT 1)), none), (.v (oFaddr 0 (xT 4)), none), (.v (oLoad (xL 0)), none), (.v (oNilc (xL 3)), none), (.h (oStore 1 (xL 0) (xK nilptr)), none), (.v (oNilc (xL 4)), none), (.h (oStore 1 (xL 0) (xL 3)), none)] 0 [none, none, none, none, none, none] [(4, 2)]))
 (kSeq (kReg (sS 5 (xT 2) sEnd))
 (kReg (sPan (xT 5))))))))
theorem t36 : FF d36 Tryz.f36 a36 [] := ff Tryz.func36 (by kernel_rfl)
def x36 : XFn := .go a36 2 pd4 []
def d37 : FD := ⟨37, 2, [4]⟩
def a37 : CodeF := (kSeq (kReg (sS 2 (xK nilptr) sEnd))
 (kSeq (kRegC (fun k => (sV (oBin .neq .no (xT 1) (ki 0)) k)) (xL 0) (kReg (sV (oBuild [(int .i64 (.ofNat 0))] [(0, 1, (xT 1))]) (sV (oMkif 128 (xL 0)) (sPan (xL 0)))))
 kSkip)
 (kSeq (kReg (sS 2 (xT 0) sEnd))
 kRet)))
theorem t37 : FF d37 Tryz.f37 a37 [(.t 2)] := ff Tryz.func37 (by kernel_rfl)
def x37 : XFn := .go a37 2 pd1 [(.t 2)]
def d38 : FD := ⟨38, 2, [4, 5, 2, 6, 8, 31, 32, 33, 9, 45, 46, 47, 44, 11, 13, 7, 85, 86, 87, 84, 14, 12, 10, 15, 102, 103, 104, 101, 17]⟩
def a38 : CodeF := (kSeq (kReg (sH (oBox 31 1 (xT 0)) (sS 4 (xL 0) (sS 2 (xK nilptr) (sS 3 (ki 0) sEnd)))))
 (kSeq (kSeq (kReg (sV (oLoadN 1 (xT 4)) (sC (cFn 59) [(xL 0), (xT 1)] (sS 5 (xL 0) sEnd))))
 (kRegC (fun k => (sV (oBin .neq .no (xT 5) (ki 0)) k)) (xL 0) (kSeq (kReg (sS 2 (xK nilptr) (sS 3 (xT 5) sEnd)))
 kRet)
 kSkip))
 (kSeq (kReg (sV (oBuild [nils, nils, nils] []) (sH (oBox 133 3 (xL 0)) (sS 17 (xL 0) sEnd))))
 (kSeq (kReg (sV (oFaddr 0 (xT 4)) (sV (oLoad (xL 0)) (sV (oLenL (xL 0)) (sH (oMksl 135 1 [nilptr] (xL 0) (xL 0)) (sS 6 (xL 0) sEnd))))))
 (kSeq (kSeq (kReg (sV (oLenL (xT 6)) (sS 7 (xL 0) (sS 8 (ki 0) sEnd))))
 (kBlock 0 (kLoop (kSeq (kReg (sV (oBin .lss .no (xT 8) (xT 7)) (sS 9 (xL 0) sEnd)))
 (kSeq (kCond (xT 9) kSkip
 (kExit 0))
 (kSeq (kBlock 1 (kSeq (kReg (sS 10 (xT 8) sEnd))
 (kReg (sV (oLoadN 1 (xT 4)) (sH oMkmap (sV (oBuild [nils, nils, nils, nils, nils, nils, nils, (int .i64 (.ofNat 0)), nilmap] [(6, 1, (xL 1)), (7, 1, (xT 10)), (8, 1, (xL 0))]) (sH (oBox 145 9 (xL 0)) (sV (oIaddr 1 (xT 6) (xT 10)) (sH (oStore 1 (xL 0) (xL 1)) sEnd)))))))))
 (kReg (sV (oBin .add .no (xT 8) (ki 1)) (sS 8 (xL 0) sEnd)))))))))
 (kSeq (kSeq (kReg (sS 14 (xT 1) (sV (oLenL (xT 14)) (sS 11 (xL 0) (sS 12 (ki 0) sEnd)))))
 (kBlock 2 (kLoop (kSeq (kReg (sV (oBin .lss .no (xT 12) (xT 11)) (sS 13 (xL 0) sEnd)))
 (kSeq (kCond (xT 13) kSkip
 (kExit 2))
 (kSeq (kBlock 3 (kSeq (kReg (sV (oIaddr 2 (xT 14) (xT 12)) (sV (oLoadN 2 (xL 0)) (sH (oAlloc 70 2 [(int .u64 (.ofNat 0)), nils]) (sS 15 (xL 0) (sS 24 (xT 12) (sH (oStore 2 (xT 15) (xL 1)) sEnd)))))))
 (kSeq (kReg (sV (oLoadN 1 (xT 4)) (sV (oFaddr 1 (xT 15)) (sV (oLoadN 1 (xL 0)) (sC (cFn 60) [(xL 2), (xL 0)] (sV (oExt 0 (xL 0)) (sV (oExt 1 (xL 1)) (sS 23 (xL 1) (sS 16 (xL 0) sEnd)))))))))
 (kSeq (kRegC (fun k => (sV (oBin .neq .no (xT 16) (ki 0)) k)) (xL 0) (kSeq (kReg (sS 2 (xK nilptr) (sS 3 (xT 16) sEnd)))
 kRet)
 kSkip)
 (kSeq (kDraw [(.v (oMov (xT 17)), none), (.v (oMov (xT 17)), none), (.v (oNilc (xL 0)), none), (.v (oFaddr 0 (xL 0)), none), (.v (oLoad (xL 0)), none), (.v (oFaddr 0 (xT 15)), none), (.v (oLoad (xL 0)), none), (.h (oBsl 35 1 1 [(int .u64 (.ofNat 0))] [(0, 1, (xL 0))]), none), (.h (oApp 35 1 (xL 3) (xL 0)), none), (.v (oNilc (xL 8)), none), (.v (oFaddr 0 (xL 0)), none), (.h (oStore 1 (xL 0) (xL 2)), none)] 0 [none, none, none, none, none, none, none, none, none, none, none, none, none, none, none, none, none, none, none, none, none, none, none, none, none, none, none, none, none, none, none] [(7, 4)])
 (kSeq (kDraw [(.v (oMov (xT 17)), none), (.v (oMov (xT 17)), none), (.v (oNilc (xL 0)), none), (.v (oFaddr 1 (xL 0)), none), (.v (oLoad (xL 0)), none), (.v (oFaddr 1 (xT 15)), none), (.v (oLoadN 1 (xL 0)), none), (.c (cFn 61) [(xL 0)], none), (.h (oBsl 68 1 1 [nils] [(0, 1, (xL 0))]), none), (.h (oApp 68 1 (xL 4) (xL 0)), none), (.v (oNilc (xL 9)), none), (.v (oFaddr 1 (xL 0)), none), (.h (oStore 1 (xL 0) (xL 2)), none)] 0 [none, none, none, none, none, none, none, none, none, none, none, none, none, none, none, none, none, none, none, none, none, none, none, none, none, none, none, none, none, none, none] [(8, 5), (8, 4)])
 (kSeq (kReg (sS 21 (xT 6) (sV (oLenL (xT 21)) (sS 18 (xL 0) (sS 19 (ki 0) sEnd)))))
 (kBlock 4 (kLoop (kSeq (kReg (sV (oBin .lss .no (xT 19) (xT 18)) (sS 20 (xL 0) sEnd)))
 (kSeq (kCond (xT 20) kSkip
 (kExit 4))
 (kSeq (kBlock 5 (kSeq (kReg (sV (oIaddr 1 (xT 21) (xT 19)) (sV (oLoad (xL 0)) (sH (oAlloc 3 1 [(int .i64 (.ofNat 0))]) (sS 22 (xL 0) (sH (oStore 1 (xT 22) (xT 19)) (sS 25 (xL 2) sEnd)))))))
 (kReg (sC (cFn 62) [(xT 25)] (sC (cFn 64) [(xT 23)] (sV (oMkfn 65 [] [(xT 22)]) (sC (cFn 63) [(xL 1), (xL 0)] (sC (cVal (xL 3)) [(xT 24), (xL 0)] sEnd))))))))
 (kReg (sV (oBin .add .no (xT 19) (ki 1)) (sS 19 (xL 0) sEnd)))))))))))))))
 (kReg (sV (oBin .add .no (xT 12) (ki 1)) (sS 12 (xL 0) sEnd)))))))))
 (kSeq (kSeq (kReg (sS 29 (xT 6) (sV (oLenL (xT 29)) (sS 26 (xL 0) (sS 27 (ki 0) sEnd)))))
 (kBlock 6 (kLoop (kSeq (kReg (sV (oBin .lss .no (xT 27) (xT 26)) (sS 28 (xL 0) sEnd)))
 (kSeq (kCond (xT 28) kSkip
 (kExit 6))
 (kSeq (kBlock 7 (kSeq (kReg (sV (oIaddr 1 (xT 29) (xT 27)) (sV (oLoad (xL 0)) (sS 30 (xL 0) sEnd))))
 (kDraw [(.v (oMov (xT 17)), none), (.v (oMov (xT 17)), none), (.v (oNilc (xL 0)), none), (.v (oFaddr 2 (xL 0)), none), (.v (oLoad (xL 0)), none), (.v (oMov (xT 30)), none), (.c (cFn 66) [(xL 0)], none), (.h (oBsl 143 6 1 [nils, nils, nils, nils, nils, nils] [(0, 6, (xL 0))]), none), (.h (oApp 143 6 (xL 3) (xL 0)), none), (.v (oNilc (xL 8)), none), (.v (oFaddr 2 (xL 0)), none), (.h (oStore 1 (xL 0) (xL 2)), none)] 0 [none, none, none, none, none, none, none, none, none, none, none, none, none, none, none, none, none, none, none, none, none, none, none, none, none, none, none, none, none, none, none] [(7, 5), (7, 4)])))
 (kReg (sV (oBin .add .no (xT 27) (ki 1)) (sS 27 (xL 0) sEnd)))))))))
 (kSeq (kDraw [(.v (oMov (xT 17)), none), (.v (oMov (xT 17)), none), (.v (oMov (xT 17)), none), (.v (oMov (xT 17)), none), (.v (oNilc (xL 0)), none), (.v (oFaddr 0 (xL 0)), none), (.v (oLoad (xL 0)), none), (.c (cFn 42) [(xL 0)], none), (.v (oMov (xT 17)), none), (.v (oNilc (xL 0)), none), (.v (oFaddr 1 (xL 0)), none), (.v (oLoad (xL 0)), none), (.c (cFn 67) [(xL 0)], none), (.v (oMov (xT 17)), none), (.v (oNilc (xL 0)), none), (.v (oFaddr 2 (xL 0)), none), (.v (oLoad (xL 0)), none), (.c (cFn 68) [(xL 0)], none), (.v (oNilc (xL 17)), none), (.v (oFaddr 0 (xL 0)), none), (.h (oStore 1 (xL 0) (xL 12)), none), (.v (oNilc (xL 19)), none), (.v (oFaddr 1 (xL 0)), none), (.h (oStore 1 (xL 0) (xL 10)), none), (.v (oNilc (xL 21)), none), (.v (oFaddr 2 (xL 0)), none), (.h (oStore 1 (xL 0) (xL 8)), none)] 0 [none, none, none, none, none, none, none, none, none, none, none, none, none, none, none, none, none, none, none, none, none, none, none, none, none, none, none, none, none, none, none] [(15, 19), (10, 19), (10, 14)])
 (kSeq (kReg (sS 2 (xT 17) (sS 3 (ki 0) sEnd)))
 kRet)))))))))
theorem t38 : FF d38 Tryz.f38 a38 [(.t 2), (.t 3)] := ff Tryz.func38 (by kernel_rfl)
def x38 : XFn := .go a38 2 pd29 [(.t 2), (.t 3)]
def d39 : FD := ⟨39, 2, [4, 5, 6, 7, 10, 8, 2, 56, 57, 58, 55, 13, 11, 84, 85, 86, 83, 15]⟩
def a39 : CodeF := (kSeq (kReg (sH (oBox 31 1 (xT 0)) (sS 8 (xL 0) (sS 2 (xK nilptr) sEnd))))
 (kSeq (kReg (sC (cFn 71) [(xK (int .u8 (.ofNat 1))), (xT 1)] (sV (oExt 0 (xL 0)) (sV (oExt 1 (xL 1)) (sC (cFn 70) [(xL 1), (xL 0)] (sC (cFn 69) [(xL 0)] (sS 3 (xL 0) sEnd)))))))
 (kSeq (kReg (sC (cVal (xT 3)) [] (sC (cFn 72) [(xL 0)] (sS 4 (xL 0) sEnd))))
 (kSeq (kReg (sC (cFn 73) [(xT 4), (ki 16384)] (sS 5 (xL 0) sEnd)))
 (kSeq (kReg (sC (cFn 76) [(xT 4)] (sC (cFn 75) [(xT 4), (xL 0)] (sC (cFn 74) [(xL 0), (xT 5)] (sV (oExt 0 (xL 0)) (sV (oExt 1 (xL 1)) (sV (oExt 2 (xL 2)) (sS 7 (xL 2) (sS 6 (xL 0) sEnd)))))))))
 (kSeq (kReg (sC (cFn 78) [(xT 4)] (sV (oMm true (xT 6) [(xL 0)]) (sC (cFn 77) [(xT 7), (xL 0)] sEnd))))
 (kSeq (kReg (sV (oLoadN 1 (xT 8)) (sC (cFn 49) [(xL 0)] (sC (cFn 28) [(xT 1)] (sC (cVal (xT 3)) [] (sC (cFn 80) [(xL 0)] (sV (oExt 0 (xL 0)) (sV (oExt 1 (xL 1)) (sC (cFn 79) [(xL 1), (xL 0)] (sV (oBuild [nils, nils, nils, nilptr, nils] [(0, 1, (xL 6)), (1, 1, (xL 5)), (3, 1, (xL 0))]) (sH (oBox 80 5 (xL 0)) (sS 14 (xL 0) sEnd))))))))))))
 (kSeq (kSeq (kReg (sS 12 (xT 7) (sV (oLenL (xT 12)) (sS 9 (xL 0) (sS 10 (ki 0) sEnd)))))
 (kBlock 0 (kLoop (kSeq (kReg (sV (oBin .lss .no (xT 10) (xT 9)) (sS 11 (xL 0) sEnd)))
 (kSeq (kCond (xT 11) kSkip
 (kExit 0))
 (kSeq (kBlock 1 (kSeq (kReg (sV (oIaddr 1 (xT 12) (xT 10)) (sV (oLoad (xL 0)) (sS 13 (xL 0) sEnd))))
 (kReg (sV (oNilc (xT 14)) (sV (oFaddr 2 (xL 0)) (sV (oLoad (xL 0)) (sV (oConv .u64 (xT 13)) (sH (oBsl 35 1 1 [(int .u64 (.ofNat 0))] [(0, 1, (xL 0))]) (sH (oApp 35 1 (xL 2) (xL 0)) (sV (oNilc (xT 14)) (sV (oFaddr 2 (xL 0)) (sH (oStore 1 (xL 0) (xL 2)) sEnd))))))))))))
 (kReg (sV (oBin .add .no (xT 10) (ki 1)) (sS 10 (xL 0) sEnd)))))))))
 (kSeq (kRegC (fun k => (sV (oNilc (xT 14)) (sV (oFaddr 3 (xL 0)) (sV (oLoad (xL 0)) (sC (cFn 81) [(xL 0)] (sV (oBin .neq .no (xL 0) (xT 5)) k)))))) (xL 0) (kReg (sV (oBuild [(int .i64 (.ofNat 0))] [(0, 1, (ki 20))]) (sV (oMkif 128 (xL 0)) (sPan (xL 0)))))
 kSkip)
 (kSeq (kSeq (kReg (sV (oFaddr 0 (xT 8)) (sV (oLoad (xL 0)) (sS 18 (xL 0) (sV (oLenL (xT 18)) (sS 15 (xL 0) (sS 16 (ki 0) sEnd)))))))
 (kBlock 2 (kLoop (kSeq (kReg (sV (oBin .lss .no (xT 16) (xT 15)) (sS 17 (xL 0) sEnd)))
 (kSeq (kCond (xT 17) kSkip
 (kExit 2))
 (kSeq (kBlock 3 (kSeq (kReg (sV (oIaddr 7 (xT 18) (xT 16)) (sV (oLoadN 7 (xL 0)) (sH (oAlloc 42 7 [(str []), (int .i64 (.ofNat 0)), nils, (int .i64 (.ofNat 0)), (int .i64 (.ofNat 0)), (bool false), (bool false)]) (sS 19 (xL 0) (sH (oStore 7 (xT 19) (xL 1)) sEnd))))))
 (kDraw [(.v (oMov (xT 14)), none), (.v (oMov (xT 14)), none), (.v (oNilc (xL 0)), none), (.v (oFaddr 4 (xL 0)), none), (.v (oLoad (xL 0)), none), (.v (oLoadN 7 (xT 19)), none), (.v (oMov (xT 5)), none), (.v (oMov (xT 3)), none), (.c (cFn 82) [(xL 2), (xL 1), (xL 0)], none), (.h (oBsl 182 6 1 [nilptr, nils, nils, nilptr, nilptr, nilptr] [(0, 6, (xL 0))]), none), (.h (oApp 182 6 (xL 5) (xL 0)), none), (.v (oNilc (xL 10)), none), (.v (oFaddr 4 (xL 0)), none), (.h (oStore 1 (xL 0) (xL 2)), none)] 0 [none, none, none, none, none, none, none, none, none, none, none, none, none, none, none, none, none, none, none, none] [(9, 5), (9, 4)])))
 (kReg (sV (oBin .add .no (xT 16) (ki 1)) (sS 16 (xL 0) sEnd)))))))))
 (kSeq (kReg (sS 2 (xT 14) sEnd))
 kRet)))))))))))
theorem t39 : FF d39 Tryz.f39 a39 [(.t 2)] := ff Tryz.func39 (by kernel_rfl)
def x39 : XFn := .go a39 2 pd18 [(.t 2)]
def d40 : FD := ⟨40, 2, [4, 16, 17, 18, 15, 8, 5, 7, 6, 53, 54, 55, 52, 11, 10, 2, 9]⟩
def a40 : CodeF := (kSeq (kReg (sH (oBox 31 1 (xT 0)) (sS 17 (xL 0) (sS 2 (xK nils) sEnd))))
 (kSeq (kReg (sS 8 (xK nils) sEnd))
 (kSeq (kReg (sS 10 (xK nils) sEnd))
 (kSeq (kSeq (kReg (sV (oNilc (xT 1)) (sV (oFaddr 0 (xL 0)) (sV (oLoad (xL 0)) (sS 6 (xL 0) (sV (oLenL (xT 6)) (sS 3 (xL 0) (sS 4 (ki 0) sEnd))))))))
 (kBlock 0 (kLoop (kSeq (kReg (sV (oBin .lss .no (xT 4) (xT 3)) (sS 5 (xL 0) sEnd)))
 (kSeq (kCond (xT 5) kSkip
 (kExit 0))
 (kSeq (kBlock 1 (kSeq (kReg (sV (oIaddr 1 (xT 6) (xT 4)) (sV (oLoad (xL 0)) (sS 9 (xT 4) (sS 7 (xL 0) sEnd)))))
 (kSeq (kReg (sV (oMov (xT 8)) (sV (oConv .i64 (xT 7)) (sH (oBsl 2 1 1 [(int .i64 (.ofNat 0))] [(0, 1, (xL 0))]) (sH (oApp 2 1 (xL 2) (xL 0)) (sS 8 (xL 0) sEnd))))))
 (kReg (sV (oMov (xT 10)) (sV (oNilc (xT 1)) (sV (oFaddr 1 (xL 0)) (sV (oLoad (xL 0)) (sV (oIaddr 1 (xL 0) (xT 9)) (sV (oFaddr 0 (xL 0)) (sV (oLoad (xL 0)) (sH (oBsl 66 1 1 [nils] [(0, 1, (xL 0))]) (sH (oApp 66 1 (xL 7) (xL 0)) (sS 10 (xL 0) sEnd))))))))))))))
 (kReg (sV (oBin .add .no (xT 4) (ki 1)) (sS 4 (xL 0) sEnd)))))))))
 (kSeq (kReg (sV (oLenL (xT 8)) (sV (oConv .u64 (xL 0)) (sC (cFn 83) [(xK nils), (xL 0)] (sC (cFn 84) [(xT 8)] (sH (oApp 5 1 (xL 1) (xL 0)) (sC (cFn 85) [(xT 10)] (sH (oBsl 47 1 2 [nils] [(0, 1, (xL 1)), (1, 1, (xL 0))]) (sS 18 (xL 0) sEnd)))))))))
 (kSeq (kSeq (kReg (sV (oNilc (xT 1)) (sV (oFaddr 2 (xL 0)) (sV (oLoad (xL 0)) (sS 14 (xL 0) (sV (oLenL (xT 14)) (sS 11 (xL 0) (sS 12 (ki 0) sEnd))))))))
 (kBlock 2 (kLoop (kSeq (kReg (sV (oBin .lss .no (xT 12) (xT 11)) (sS 13 (xL 0) sEnd)))
 (kSeq (kCond (xT 13) kSkip
 (kExit 2))
 (kSeq (kBlock 3 (kSeq (kReg (sV (oIaddr 6 (xT 14) (xT 12)) (sV (oLoadN 6 (xL 0)) (sH (oAlloc 143 6 [nils, nils, nils, nils, nils, nils]) (sS 15 (xL 0) (sS 16 (xT 12) (sH (oStore 6 (xT 15) (xL 1)) sEnd)))))))
 (kDraw [(.v (oMov (xT 18)), none), (.v (oFaddr 0 (xT 17)), none), (.v (oLoad (xL 0)), none), (.v (oMov (xT 16)), none), (.v (oIaddr 7 (xL 1) (xL 0)), none), (.v (oLoadN 7 (xL 0)), none), (.v (oLoadN 6 (xT 15)), none), (.c (cFn 86) [(xL 1), (xL 0)], none), (.h (oApp 47 1 (xL 7) (xL 0)), none), (.v (oMov (xL 0)), none)] 0 [none, none, none, none, none, none, none, none, none, none, none, none, none, none, none, none, none, none, (some 0)] [])))
 (kReg (sV (oBin .add .no (xT 12) (ki 1)) (sS 12 (xL 0) sEnd)))))))))
 (kSeq (kReg (sC (cFn 88) [(xK (int .u8 (.ofNat 1))), (xT 18)] (sV (oExt 0 (xL 0)) (sV (oExt 1 (xL 1)) (sC (cFn 87) [(xL 1), (xL 0)] (sS 2 (xL 0) sEnd))))))
 kRet)))))))
theorem t40 : FF d40 Tryz.f40 a40 [(.t 2)] := ff Tryz.func40 (by kernel_rfl)
def x40 : XFn := .go a40 2 pd17 [(.t 2)]
def d41 : FD := ⟨41, 2, [4, 3, 16, 5, 34, 35, 36, 7, 8]⟩
def a41 : CodeF := (kSeq (kReg (sH (oBox 3 1 (xT 1)) (sS 3 (xL 0) (sH (oAlloc 66 1 [nils]) (sS 2 (xL 0) sEnd)))))
 (kSeq (kSeq (kDraw [(.v (oLoad (xT 3)), none), (.v (oBin .lss .no (xL 0) (ki 0)), none), (.v (oMov (xL 0)), none), (.v (oLoad (xT 3)), (some ((xL 0), false))), (.v (oMov (xT 0)), (some ((xL 1), false))), (.c (cFn 81) [(xL 0)], (some ((xL 2), false))), (.v (oBin .geq .no (xL 2) (xL 0)), (some ((xL 3), false))), (.v (oPick (xL 4) (xK (bool true)) (xL 0)), none)] 0 [none, none, none, none, (some 0), none, none, none, none, none, none] [(4, 2)])
 (kCond (xT 4) (kSeq (kReg (sH (oStore 1 (xT 2) (xK nils)) sEnd))
 kRet)
 kSkip))
 (kSeq (kDraw [(.v (oMov (xT 0)), none), (.v (oNilc (xL 0)), none), (.v (oFaddr 0 (xL 0)), none), (.v (oLoad (xL 0)), none), (.v (oLoad (xT 3)), none), (.v (oBin .add .no (xL 0) (ki 1)), none), (.c (cFn 89) [(xL 2), (xL 0), (xK (.func (.func 90) [] []))], none), (.v (oMov (xL 0)), none), (.v (oExt 0 (xL 0)), none), (.v (oExt 1 (xL 1)), none), (.v (oMov (xL 1)), none), (.v (oMov (xL 1)), none)] 0 [none, none, none, none, none, (some 1), none, none, none, none, none] [])
 (kSeq (kSeq (kReg (sV (oNilc (xT 0)) (sV (oFaddr 0 (xL 0)) (sV (oLoad (xL 0)) (sV (oIaddr 3 (xL 0) (xT 5)) (sV (oLoadN 3 (xL 0)) (sC (cFn 91) [(xL 0)] (sS 6 (xL 0) sEnd))))))))
 (kBlock 0 (kRf 67111546 [7, 8] (xT 6))))
 (kSeq (kReg (sH (oStore 1 (xT 2) (xK nils)) sEnd))
 kRet)))))
theorem t41 : FF d41 Tryz.f41 a41 [(.cell 2 none)] := ff Tryz.func41 (by kernel_rfl)
def x41 : XFn := .go a41 2 pd9 [(.cell 2 none)]
def r41x0 : CodeF × CodeF := ((kSeq (kReg (sS 9 (xT 7) sEnd))
 (kReg (sS 10 (xT 8) sEnd))),
 (kBlock 1 (kRegC (fun k => (sV (oLoad (xT 3)) (sV (oBin .eql .no (xT 9) (xL 0)) k))) (xL 0) (kSeq (kReg (sH (oStore 1 (xT 2) (xT 10)) sEnd))
 kRet)
 kSkip)))
theorem u41x0 : RfFact Tryz.prog d41 Tryz.f41 67111546 r41x0 := ⟨Tryz.func41, by kernel_rfl⟩
def d42 : FD := ⟨42, 1, [2]⟩
def a42 : CodeF := (kSeq (kReg (sS 1 (xK nils) sEnd))
 (kSeq (kReg (sV (oLenL (xT 0)) (sV (oLenL (xT 0)) (sV (oSlc 1 (xT 0) none (some (xL 1)) (some (xL 0))) (sS 1 (xL 0) sEnd)))))
 kRet))
theorem t42 : FF d42 Tryz.f42 a42 [(.t 1)] := ff Tryz.func42 (by kernel_rfl)
def x42 : XFn := .go a42 1 pd1 [(.t 1)]
def d43 : FD := ⟨43, 1, [2]⟩
def a43 : CodeF := (kSeq (kReg (sS 1 (xK nils) sEnd))
 (kSeq (kRegC (fun k => (sV (oBin .eql .slice (xT 0) (xK nils)) k)) (xL 0) (kSeq (kReg (sS 1 (xK nils) sEnd))
 kRet)
 kSkip)
 (kSeq (kReg (sH (oBsl 35 1 0 [(int .u64 (.ofNat 0))] []) (sH (oApp 35 1 (xL 0) (xT 0)) (sS 1 (xL 0) sEnd))))
 kRet)))
theorem t43 : FF d43 Tryz.f43 a43 [(.t 1)] := ff Tryz.func43 (by kernel_rfl)
def x43 : XFn := .go a43 1 pd1 [(.t 1)]
def d44 : FD := ⟨44, 2, [4, 5, 3, 2, 6]⟩
def a44 : CodeF := (kSeq (kReg (sH (oBox 31 1 (xT 0)) (sS 5 (xL 0) (sH (oBox 9 1 (xT 1)) (sS 4 (xL 0) (sS 2 (ki 0) (sS 3 (xK (bool false)) sEnd)))))))
 (kSeq (kReg (sV (oFaddr 0 (xT 5)) (sV (oLoad (xL 0)) (sV (oMkfn 93 [] [(xT 4)]) (sC (cFn 92) [(xL 1), (xL 0)] (sS 6 (xL 0) sEnd))))))
 (kSeq (kReg (sV (oMm true (ki 0) [(xT 6)]) (sV (oBin .geq .no (xT 6) (ki 0)) (sS 2 (xL 1) (sS 3 (xL 0) sEnd)))))
 kRet)))
theorem t44 : FF d44 Tryz.f44 a44 [(.t 2), (.t 3)] := ff Tryz.func44 (by kernel_rfl)
def x44 : XFn := .go a44 2 pd5 [(.t 2), (.t 3)]
def d45 : FD := ⟨45, 1, [2, 1, 39, 46]⟩
def a45 : CodeF := (kSeq (kReg (sH (oBox 42 7 (xT 0)) (sS 2 (xL 0) (sS 1 (xK (bool false)) sEnd))))
 (kSeq (kRegC (fun k => (sV (oFaddr 0 (xT 2)) (sV (oLoad (xL 0)) (sC (cFn 94) [(xL 0)] (sV (oUn .not (xL 0)) (sG (xL 0) false (sV (oFaddr 1 (xT 2))) (sG (xL 1) false (sV (oLoad (xL 0))) (sG (xL 2) false (sV (oBin .neq .no (xL 0) (ki 1))) (sG (xL 3) false (sV (oMov (xL 0))) (sG (xL 0) true (sV (oFaddr 2 (xT 2))) (sG (xL 1) true (sV (oLoad (xL 0))) (sG (xL 2) true (sV (oLenL (xL 0))) (sG (xL 3) true (sV (oBin .gtr .no (xL 0) (ki 0))) (sG (xL 8) false (sV (oPick (xL 4) (xL 0) (xK (bool false)))) (sV (oPick (xL 9) (xK (bool true)) (xL 0)) (sG (xL 0) false (sV (oFaddr 1 (xT 2))) (sG (xL 1) false (sV (oLoad (xL 0))) (sG (xL 2) false (sV (oBin .neq .no (xL 0) (ki 4))) (sG (xL 3) false (sV (oMov (xL 0))) (sG (xL 0) true (sV (oFaddr 3 (xT 2))) (sG (xL 1) true (sV (oLoad (xL 0))) (sG (xL 2) true (sV (oBin .neq .no (xL 0) (ki 0))) (sG (xL 7) false (sV (oPick (xL 3) (xL 0) (xK (bool false)))) (sV (oPick (xL 8) (xK (bool true)) (xL 0)) (sG (xL 0) false (sV (oFaddr 1 (xT 2))) (sG (xL 1) false (sV (oLoad (xL 0))) (sG (xL 2) false (sV (oBin .neq .no (xL 0) (ki 5))) (sG (xL 3) false (sV (oMov (xL 0))) (sG (xL 0) true (sV (oFaddr 4 (xT 2))) (sG (xL 1) true (sV (oLoad (xL 0))) (sG (xL 2) true (sV (oBin .neq .no (xL 0) (ki 0))) (sG (xL 7) false (sV (oPick (xL 3) (xL 0) (xK (bool false)))) (sV (oPick (xL 8) (xK (bool true)) (xL 0)) k))))))))))))))))))))))))))))))))) (xL 0) (kSeq (kReg (sS 1 (xK (bool false)) sEnd))
 kRet)
 kSkip)
 (kSeq (kSeq (kReg (sV (oFaddr 1 (xT 2)) (sV (oLoad (xL 0)) (sS 3 (xL 0) sEnd))))
 (kBlock 0 (kRegC (fun k => (sV (oBin .eql .no (xT 3) (ki 1)) k)) (xL 0) (kSeq (kReg (sV (oFaddr 2 (xT 2)) (sV (oLoad (xL 0)) (sC (cFn 95) [(xL 0)] (sV (oBin .eql .no (xL 0) (ki 0)) (sS 1 (xL 0) sEnd))))))
 kRet)
 (kSeq (kRegC (fun k => (sV (oBin .eql .no (xT 3) (ki 2)) (sS 4 (xL 0) k))) (xT 4) kSkip
 (kReg (sV (oBin .eql .no (xT 3) (ki 3)) (sS 4 (xL 0) sEnd))))
 (kCond (xT 4) (kSeq (kReg (sS 1 (xK (bool true)) sEnd))
 kRet)
 (kRegC (fun k => (sV (oBin .eql .no (xT 3) (ki 4)) k)) (xL 0) (kSeq (kReg (sV (oFaddr 3 (xT 2)) (sV (oLoad (xL 0)) (sV (oBin .geq .no (xL 0) (ki 0)) (sG (xL 0) true (sV (oFaddr 3 (xT 2))) (sG (xL 1) true (sV (oLoad (xL 0))) (sG (xL 2) true (sV (oBin .leq .no (xL 0) (ki 9))) (sV (oPick (xL 3) (xL 0) (xK (bool false))) (sS 1 (xL 0) sEnd)))))))))
 kRet)
 (kRegC (fun k => (sV (oBin .eql .no (xT 3) (ki 5)) k)) (xL 0) (kSeq (kReg (sV (oFaddr 4 (xT 2)) (sV (oLoad (xL 0)) (sV (oBin .geq .no (xL 0) (ki 1)) (sG (xL 0) true (sV (oFaddr 4 (xT 2))) (sG (xL 1) true (sV (oLoad (xL 0))) (sG (xL 2) true (sV (oBin .leq .no (xL 0) (ki 4))) (sV (oPick (xL 3) (xL 0) (xK (bool false))) (sS 1 (xL 0) sEnd)))))))))
 kRet)
 kSkip)))))))
 (kSeq (kReg (sS 1 (xK (bool false)) sEnd))
 kRet))))
theorem t45 : FF d45 Tryz.f45 a45 [(.t 1)] := ff Tryz.func45 (by kernel_rfl)
def x45 : XFn := .go a45 1 pd4 [(.t 1)]
def d46 : FD := ⟨46, 3, [6, 16, 17, 18, 15, 7, 9, 8]⟩
def a46 : CodeF := (kSeq (kReg (sS 3 (xK (bool false)) sEnd))
 (kSeq (kRegC (fun k => (sV (oLenL (xT 0)) (sV (oLenL (xT 1)) (sV (oBin .neq .no (xL 1) (xL 0)) k)))) (xL 0) (kSeq (kReg (sS 3 (xK (bool false)) sEnd))
 kRet)
 kSkip)
 (kSeq (kSeq (kReg (sS 7 (xT 0) (sV (oLenL (xT 7)) (sS 4 (xL 0) (sS 5 (ki 0) sEnd)))))
 (kBlock 0 (kLoop (kSeq (kReg (sV (oBin .lss .no (xT 5) (xT 4)) (sS 6 (xL 0) sEnd)))
 (kSeq (kCond (xT 6) kSkip
 (kExit 0))
 (kSeq (kBlock 1 (kSeq (kReg (sV (oIaddr 7 (xT 7) (xT 5)) (sV (oLoadN 7 (xL 0)) (sH (oAlloc 42 7 [(str []), (int .i64 (.ofNat 0)), nils, (int .i64 (.ofNat 0)), (int .i64 (.ofNat 0)), (bool false), (bool false)]) (sS 10 (xL 0) (sS 8 (xT 5) (sH (oStore 7 (xT 10) (xL 1)) sEnd)))))))
 (kSeq (kReg (sV (oIaddr 7 (xT 1) (xT 8)) (sV (oLoadN 7 (xL 0)) (sH (oAlloc 42 7 [(str []), (int .i64 (.ofNat 0)), nils, (int .i64 (.ofNat 0)), (int .i64 (.ofNat 0)), (bool false), (bool false)]) (sS 9 (xL 0) (sH (oStore 7 (xT 9) (xL 1)) sEnd))))))
 (kRegC (fun k => (sV (oLoadN 7 (xT 10)) (sV (oLoadN 7 (xT 9)) (sC (cVal (xT 2)) [(xL 1), (xL 0)] (sV (oUn .not (xL 0)) k))))) (xL 0) (kSeq (kReg (sS 3 (xK (bool false)) sEnd))
 kRet)
 kSkip))))
 (kReg (sV (oBin .add .no (xT 5) (ki 1)) (sS 5 (xL 0) sEnd)))))))))
 (kSeq (kReg (sS 3 (xK (bool true)) sEnd))
 kRet))))
theorem t46 : FF d46 Tryz.f46 a46 [(.t 3)] := ff Tryz.func46 (by kernel_rfl)
def x46 : XFn := .go a46 3 pd8 [(.t 3)]
def d47 : FD := ⟨47, 2, [4, 3, 2]⟩
def a47 : CodeF := (kSeq (kReg (sH (oBox 42 7 (xT 0)) (sS 4 (xL 0) (sH (oBox 42 7 (xT 1)) (sS 3 (xL 0) (sS 2 (xK (bool false)) sEnd))))))
 (kSeq (kReg (sV (oFaddr 2 (xT 4)) (sV (oLoad (xL 0)) (sV (oFaddr 2 (xT 3)) (sV (oLoad (xL 0)) (sC (cFn 48) [(xL 2), (xL 0)] (sG (xL 0) true (sV (oFaddr 0 (xT 4))) (sG (xL 1) true (sV (oLoad (xL 0))) (sG (xL 2) true (sV (oFaddr 0 (xT 3))) (sG (xL 3) true (sV (oLoad (xL 0))) (sG (xL 4) true (sV (oBin .eql .no (xL 2) (xL 0))) (sV (oPick (xL 5) (xL 0) (xK (bool false))) (sG (xL 0) true (sV (oFaddr 1 (xT 4))) (sG (xL 1) true (sV (oLoad (xL 0))) (sG (xL 2) true (sV (oFaddr 1 (xT 3))) (sG (xL 3) true (sV (oLoad (xL 0))) (sG (xL 4) true (sV (oBin .eql .no (xL 2) (xL 0))) (sV (oPick (xL 5) (xL 0) (xK (bool false))) (sG (xL 0) true (sV (oFaddr 3 (xT 4))) (sG (xL 1) true (sV (oLoad (xL 0))) (sG (xL 2) true (sV (oFaddr 3 (xT 3))) (sG (xL 3) true (sV (oLoad (xL 0))) (sG (xL 4) true (sV (oBin .eql .no (xL 2) (xL 0))) (sV (oPick (xL 5) (xL 0) (xK (bool false))) (sG (xL 0) true (sV (oFaddr 4 (xT 4))) (sG (xL 1) true (sV (oLoad (xL 0))) (sG (xL 2) true (sV (oFaddr 4 (xT 3))) (sG (xL 3) true (sV (oLoad (xL 0))) (sG (xL 4) true (sV (oBin .eql .no (xL 2) (xL 0))) (sV (oPick (xL 5) (xL 0) (xK (bool false))) (sG (xL 0) true (sV (oFaddr 5 (xT 4))) (sG (xL 1) true (sV (oLoad (xL 0))) (sG (xL 2) true (sV (oFaddr 5 (xT 3))) (sG (xL 3) true (sV (oLoad (xL 0))) (sG (xL 4) true (sV (oBin .eql .bool (xL 2) (xL 0))) (sV (oPick (xL 5) (xL 0) (xK (bool false))) (sG (xL 0) true (sV (oFaddr 6 (xT 4))) (sG (xL 1) true (sV (oLoad (xL 0))) (sG (xL 2) true (sV (oFaddr 6 (xT 3))) (sG (xL 3) true (sV (oLoad (xL 0))) (sG (xL 4) true (sV (oBin .eql .bool (xL 2) (xL 0))) (sV (oPick (xL 5) (xL 0) (xK (bool false))) (sS 2 (xL 0) sEnd)))))))))))))))))))))))))))))))))))))))))))
 kRet))
theorem t47 : FF d47 Tryz.f47 a47 [(.t 2)] := ff Tryz.func47 (by kernel_rfl)
def x47 : XFn := .go a47 2 pd3 [(.t 2)]
def d48 : FD := ⟨48, 2, [4, 12, 13, 14, 5, 24]⟩
def a48 : CodeF := (kSeq (kReg (sS 2 (xK (bool false)) sEnd))
 (kSeq (kRegC (fun k => (sV (oLenL (xT 0)) (sV (oLenL (xT 1)) (sV (oBin .neq .no (xL 1) (xL 0)) k)))) (xL 0) (kSeq (kReg (sS 2 (xK (bool false)) sEnd))
 kRet)
 kSkip)
 (kSeq (kSeq (kReg (sV (oLenL (xT 0)) (sS 3 (xL 0) (sS 4 (ki 0) sEnd))))
 (kBlock 0 (kLoop (kSeq (kReg (sV (oBin .lss .no (xT 4) (xT 3)) (sS 5 (xL 0) sEnd)))
 (kSeq (kCond (xT 5) kSkip
 (kExit 0))
 (kSeq (kBlock 1 (kSeq (kReg (sS 6 (xT 4) sEnd))
 (kSeq (kDraw [(.v (oMov (xT 0)), none), (.v (oMov (xT 6)), none), (.v (oIaddr 1 (xL 1) (xL 0)), none), (.v (oLoad (xL 0)), none), (.v (oMov (xT 1)), none), (.v (oMov (xT 6)), none), (.v (oIaddr 1 (xL 1) (xL 0)), none), (.v (oLoad (xL 0)), none), (.v (oBin .neq .no (xL 4) (xL 0)), none)] 0 [none, none, none, none, none, none, none, (some 0)] [])
 (kCond (xT 7) (kSeq (kReg (sS 2 (xK (bool false)) sEnd))
 kRet)
 kSkip))))
 (kReg (sV (oBin .add .no (xT 4) (ki 1)) (sS 4 (xL 0) sEnd)))))))))
 (kSeq (kReg (sS 2 (xK (bool true)) sEnd))
 kRet))))
theorem t48 : FF d48 Tryz.f48 a48 [(.t 2)] := ff Tryz.func48 (by kernel_rfl)
def x48 : XFn := .go a48 2 pd6 [(.t 2)]
def d49 : FD := ⟨49, 1, [2, 1, 3, 10, 11, 12, 4]⟩
def a49 : CodeF := (kSeq (kReg (sH (oBox 31 1 (xT 0)) (sS 2 (xL 0) (sH (oAlloc 31 1 [nils]) (sS 1 (xL 0) sEnd)))))
 (kSeq (kReg (sV (oFaddr 0 (xT 2)) (sV (oLoad (xL 0)) (sC (cFn 97) [(xL 0)] (sC (cFn 96) [(xL 0)] (sS 3 (xL 0) sEnd))))))
 (kSeq (kSeq (kReg (sV (oLenL (xT 3)) (sS 4 (xL 0) (sS 5 (ki 0) sEnd))))
 (kBlock 0 (kLoop (kSeq (kReg (sV (oBin .lss .no (xT 5) (xT 4)) (sS 6 (xL 0) sEnd)))
 (kSeq (kCond (xT 6) kSkip
 (kExit 0))
 (kSeq (kBlock 1 (kSeq (kReg (sS 7 (xT 5) sEnd))
 (kReg (sV (oIaddr 7 (xT 3) (xT 7)) (sV (oFaddr 2 (xL 0)) (sV (oLoad (xL 0)) (sC (cFn 99) [(xL 0)] (sC (cFn 98) [(xL 0)] (sV (oIaddr 7 (xT 3) (xT 7)) (sV (oFaddr 2 (xL 0)) (sH (oStore 1 (xL 0) (xL 2)) sEnd)))))))))))
 (kReg (sV (oBin .add .no (xT 5) (ki 1)) (sS 5 (xL 0) sEnd)))))))))
 (kSeq (kReg (sV (oBuild [nils] [(0, 1, (xT 3))]) (sH (oStore 1 (xT 1) (xL 0)) sEnd)))
 kRet))))
theorem t49 : FF d49 Tryz.f49 a49 [(.cell 1 (some 1))] := ff Tryz.func49 (by kernel_rfl)
def x49 : XFn := .go a49 1 pd7 [(.cell 1 (some 1))]
def d50 : FD := ⟨50, 2, [4, 6, 7, 2, 5]⟩
def a50 : CodeF := (kSeq (kReg (sH (oBox 54 1 (xT 0)) (sS 5 (xL 0) (sS 2 (xK nils) sEnd))))
 (kSeq (kSeq (kReg (sS 3 (xT 1) sEnd))
 (kBlock 0 (kRf 16778026 [4] (xT 3))))
 (kSeq (kReg (sV (oLoad (xT 5)) (sS 2 (xL 0) sEnd)))
 kRet)))
theorem t50 : FF d50 Tryz.f50 a50 [(.t 2)] := ff Tryz.func50 (by kernel_rfl)
def x50 : XFn := .go a50 2 pd5 [(.t 2)]
def r50x0 : CodeF × CodeF := ((kReg (sH (oAlloc 59 3 [(int .i64 (.ofNat 0)), (int .i64 (.ofNat 0)), (int .u64 (.ofNat 0))]) (sS 6 (xL 0) (sH (oStore 3 (xT 6) (xT 4)) sEnd)))),
 (kBlock 1 (kReg (sV (oLoad (xT 5)) (sV (oLoadN 3 (xT 6)) (sH (oBsl 59 3 1 [(int .i64 (.ofNat 0)), (int .i64 (.ofNat 0)), (int .u64 (.ofNat 0))] [(0, 3, (xL 0))]) (sH (oApp 59 3 (xL 2) (xL 0)) (sH (oStore 1 (xT 5) (xL 0)) sEnd))))))))
theorem u50x0 : RfFact Tryz.prog d50 Tryz.f50 16778026 r50x0 := ⟨Tryz.func50, by kernel_rfl⟩
def d51 : FD := ⟨51, 3, [12, 13, 14, 11, 5, 6, 7, 4, 8, 73]⟩
def a51 : CodeF := (kSeq (kReg (sV (oBuild [nils] []) (sH (oBox 114 1 (xL 0)) (sS 10 (xL 0) sEnd))))
 (kSeq (kSeq (kReg (sV (oLoad (xT 1)) (sS 6 (xL 0) (sV (oLenL (xT 6)) (sS 3 (xL 0) (sS 4 (ki 0) sEnd))))))
 (kBlock 0 (kLoop (kSeq (kReg (sV (oBin .lss .no (xT 4) (xT 3)) (sS 5 (xL 0) sEnd)))
 (kSeq (kCond (xT 5) kSkip
 (kExit 0))
 (kSeq (kBlock 1 (kSeq (kReg (sV (oIaddr 1 (xT 6) (xT 4)) (sV (oLoad (xL 0)) (sS 7 (xT 4) (sS 8 (xL 0) sEnd)))))
 (kSeq (kReg (sV (oLoad (xT 2)) (sV (oIaddr 1 (xL 0) (xT 7)) (sV (oLoad (xL 0)) (sC (cFn 52) [(xT 8), (xL 0), (xT 7)] (sH (oAlloc 116 3 [nils, nils, (int .i64 (.ofNat 0))]) (sS 9 (xL 0) (sH (oStore 3 (xT 9) (xL 1)) sEnd))))))))
 (kRegC (fun k => (sV (oFaddr 1 (xT 9)) (sV (oLoad (xL 0)) (sV (oLenL (xL 0)) (sV (oBin .gtr .no (xL 0) (ki 0)) k))))) (xL 0) (kDraw [(.v (oMov (xT 10)), none), (.v (oMov (xT 10)), none), (.v (oNilc (xL 0)), none), (.v (oFaddr 0 (xL 0)), none), (.v (oLoad (xL 0)), none), (.v (oLoadN 3 (xT 9)), none), (.h (oBsl 116 3 1 [nils, nils, (int .i64 (.ofNat 0))] [(0, 3, (xL 0))]), none), (.h (oApp 116 3 (xL 2) (xL 0)), none), (.v (oNilc (xL 7)), none), (.v (oFaddr 0 (xL 0)), none), (.h (oStore 1 (xL 0) (xL 2)), none)] 0 [none, none, none, none, none, none, none, none, none, none, none, none, none] [(6, 4)])
 kSkip))))
 (kReg (sV (oBin .add .no (xT 4) (ki 1)) (sS 4 (xL 0) sEnd)))))))))
 (kSeq (kReg (sV (oMkif 110 (xT 10)) (sC (cFn 53) [(xL 0)] sEnd)))
 (kBlock 2 (kLoop (kSeq (kRegC (fun k => (sV (oNilc (xT 10)) (sV (oFaddr 0 (xL 0)) (sV (oLoad (xL 0)) (sC (cFn 54) [(xL 0)] (sV (oBin .gtr .no (xL 0) (ki 0)) k)))))) (xL 0) kSkip
 (kExit 2))
 (kBlock 3 (kSeq (kReg (sV (oNilc (xT 10)) (sV (oFaddr 0 (xL 0)) (sV (oLoad (xL 0)) (sV (oIaddr 3 (xL 0) (ki 0)) (sS 11 (xL 0) sEnd))))))
 (kSeq (kSeq (kDraw [(.v (oMov (xT 0)), none), (.v (oMov (xT 11)), none), (.v (oNilc (xL 0)), none), (.v (oFaddr 2 (xL 0)), none), (.v (oLoad (xL 0)), none), (.v (oMov (xT 11)), none), (.v (oNilc (xL 0)), none), (.v (oFaddr 1 (xL 0)), none), (.v (oLoad (xL 0)), none), (.v (oIaddr 1 (xL 0) (ki 0)), none), (.v (oLoad (xL 0)), none), (.v (oMov (xT 11)), none), (.v (oNilc (xL 0)), none), (.v (oFaddr 0 (xL 0)), none), (.v (oLoad (xL 0)), none), (.v (oIaddr 1 (xL 0) (ki 0)), none), (.v (oLoad (xL 0)), none), (.v (oBuild [(int .i64 (.ofNat 0)), (int .i64 (.ofNat 0)), (int .u64 (.ofNat 0))] [(0, 1, (xL 12)), (1, 1, (xL 6)), (2, 1, (xL 0))]), none), (.c (cVal (xL 17)) [(xL 0)], none), (.v (oUn .not (xL 0)), none)] 0 [none, none, none, none, none, none, none, none, none, none, none, none, (some 0)] [])
 (kCond (xT 12) kRet
 kSkip))
 (kSeq (kDraw [(.v (oMov (xT 11)), none), (.v (oMov (xT 11)), none), (.v (oMov (xT 11)), none), (.v (oNilc (xL 0)), none), (.v (oFaddr 1 (xL 0)), none), (.v (oLoad (xL 0)), none), (.v (oSlc 1 (xL 0) (some (ki 1)) none none), none), (.v (oMov (xT 11)), none), (.v (oNilc (xL 0)), none), (.v (oFaddr 0 (xL 0)), none), (.v (oLoad (xL 0)), none), (.v (oSlc 1 (xL 0) (some (ki 1)) none none), none), (.v (oNilc (xL 11)), none), (.v (oFaddr 1 (xL 0)), none), (.h (oStore 1 (xL 0) (xL 7)), none), (.v (oNilc (xL 13)), none), (.v (oFaddr 0 (xL 0)), none), (.h (oStore 1 (xL 0) (xL 5)), none)] 0 [none, none, none, none, none, none, none, none, none, none, none, none, none] [])
 (kRegC (fun k => (sV (oNilc (xT 11)) (sV (oFaddr 1 (xL 0)) (sV (oLoad (xL 0)) (sV (oLenL (xL 0)) (sV (oBin .eql .no (xL 0) (ki 0)) k)))))) (xL 0) (kReg (sV (oMkif 110 (xT 10)) (sC (cFn 55) [(xL 0)] sEnd)))
 (kReg (sV (oMkif 110 (xT 10)) (sC (cFn 56) [(xL 0), (ki 0)] sEnd))))))))))))))
theorem t51 : FF d51 Tryz.f51 a51 [] := ff Tryz.func51 (by kernel_rfl)
def x51 : XFn := .go a51 3 pd10 []
def d52 : FD := ⟨52, 3, [6, 15, 16, 7, 9, 8]⟩
def a52 : CodeF := (kSeq (kReg (sH (oAlloc 116 3 [nils, nils, (int .i64 (.ofNat 0))]) (sS 3 (xL 0) sEnd)))
 (kSeq (kReg (sV (oBuild [nils, nils, (int .i64 (.ofNat 0))] [(2, 1, (xT 2))]) (sH (oAlloc 116 3 [nils, nils, (int .i64 (.ofNat 0))]) (sS 6 (xL 0) (sH (oStore 3 (xT 6) (xL 1)) sEnd)))))
 (kSeq (kReg (sC (cFn 26) [(xT 0)] (sH (oAlloc 50 1 [nils]) (sS 8 (xL 0) (sH (oStore 1 (xT 8) (xL 1)) sEnd)))))
 (kSeq (kSeq (kReg (sC (cFn 100) [(xT 1)] (sS 4 (xL 0) sEnd)))
 (kBlock 0 (kRf 67112250 [5] (xT 4))))
 (kSeq (kReg (sV (oLoadN 3 (xT 6)) (sH (oStore 3 (xT 3) (xL 0)) sEnd)))
 kRet)))))
theorem t52 : FF d52 Tryz.f52 a52 [(.cell 3 (some 3))] := ff Tryz.func52 (by kernel_rfl)
def x52 : XFn := .go a52 3 pd6 [(.cell 3 (some 3))]
def r52x0 : CodeF × CodeF := ((kReg (sS 7 (xT 5) sEnd)),
 (kBlock 1 (kSeq (kReg (sV (oFaddr 1 (xT 6)) (sV (oLoad (xL 0)) (sH (oBsl 3 1 1 [(int .i64 (.ofNat 0))] [(0, 1, (xT 7))]) (sH (oApp 3 1 (xL 1) (xL 0)) (sV (oFaddr 1 (xT 6)) (sH (oStore 1 (xL 0) (xL 1)) sEnd)))))))
 (kDraw [(.v (oFaddr 0 (xT 6)), none), (.v (oLoad (xL 0)), none), (.v (oLoad (xT 8)), none), (.v (oMov (xT 7)), none), (.v (oIaddr 1 (xL 1) (xL 0)), none), (.v (oLoad (xL 0)), none), (.h (oBsl 35 1 1 [(int .u64 (.ofNat 0))] [(0, 1, (xL 0))]), none), (.h (oApp 35 1 (xL 5) (xL 0)), none), (.v (oFaddr 0 (xT 6)), none), (.h (oStore 1 (xL 0) (xL 1)), none)] 0 [none, none, none, none, none, none, none, none, none] [(8, 3)]))))
theorem u52x0 : RfFact Tryz.prog d52 Tryz.f52 67112250 r52x0 := ⟨Tryz.func52, by kernel_rfl⟩
def d53 : FD := ⟨53, 1, [2, 3]⟩
def a53 : CodeF := (kSeq (kReg (sC (cMeth [(17, 410, [], true), (22, 32, [], true), (33, 12, [], true), (77, 81, [], true), (110, 54, [0], false), (112, 54, [], true), (176, 149, [], true), (178, 201, [], true), (179, 418, [], true), (180, 420, [], true), (271, 421, [], true), (348, 251, [], true), (417, 281, [], true)] (xT 0)) [] (sS 1 (xL 0) sEnd)))
 (kSeq (kReg (sV (oBin .quo .no (xT 1) (ki 2)) (sV (oBin .sub .no (xL 0) (ki 1)) (sS 2 (xL 0) sEnd))))
 (kBlock 0 (kLoop (kSeq (kRegC (fun k => (sV (oBin .geq .no (xT 2) (ki 0)) k)) (xL 0) kSkip
 (kExit 0))
 (kSeq (kBlock 1 (kReg (sC (cFn 101) [(xT 0), (xT 2), (xT 1)] sEnd)))
 (kReg (sV (oMov (xT 2)) (sV (oBin .sub .no (xL 0) (ki 1)) (sS 2 (xL 0) sEnd))))))))))
theorem t53 : FF d53 Tryz.f53 a53 [] := ff Tryz.func53 (by kernel_rfl)
def x53 : XFn := .go a53 1 pd2 []
def d54 : FD := ⟨54, 1, [2]⟩
def a54 : CodeF := (kSeq (kReg (sS 1 (ki 0) sEnd))
 (kSeq (kReg (sV (oLenL (xT 0)) (sS 1 (xL 0) sEnd)))
 kRet))
theorem t54 : FF d54 Tryz.f54 a54 [(.t 1)] := ff Tryz.func54 (by kernel_rfl)
def x54 : XFn := .go a54 1 pd1 [(.t 1)]
def d55 : FD := ⟨55, 1, [2, 3]⟩
def a55 : CodeF := (kSeq (kReg (sS 1 (xK nilif) sEnd))
 (kSeq (kReg (sC (cMeth [(17, 410, [], true), (22, 32, [], true), (33, 12, [], true), (77, 81, [], true), (110, 54, [0], false), (112, 54, [], true), (176, 149, [], true), (178, 201, [], true), (179, 418, [], true), (180, 420, [], true), (271, 421, [], true), (348, 251, [], true), (417, 281, [], true)] (xT 0)) [] (sV (oBin .sub .no (xL 0) (ki 1)) (sS 2 (xL 0) sEnd))))
 (kSeq (kReg (sC (cMeth [(110, 416, [0], false), (112, 416, [], true)] (xT 0)) [(ki 0), (xT 2)] sEnd))
 (kSeq (kReg (sC (cFn 101) [(xT 0), (ki 0), (xT 2)] sEnd))
 (kSeq (kReg (sC (cMeth [(110, 415, [], true)] (xT 0)) [] (sS 1 (xL 0) sEnd)))
 kRet)))))
theorem t55 : FF d55 Tryz.f55 a55 [(.t 1)] := ff Tryz.func55 (by kernel_rfl)
def x55 : XFn := .go a55 1 pd2 [(.t 1)]
def d56 : FD := ⟨56, 2, []⟩
def a56 : CodeF := (kRegC (fun k => (sC (cMeth [(17, 410, [], true), (22, 32, [], true), (33, 12, [], true), (77, 81, [], true), (110, 54, [0], false), (112, 54, [], true), (176, 149, [], true), (178, 201, [], true), (179, 418, [], true), (180, 420, [], true), (271, 421, [], true), (348, 251, [], true), (417, 281, [], true)] (xT 0)) [] (sC (cFn 101) [(xT 0), (xT 1), (xL 0)] (sV (oUn .not (xL 0)) k)))) (xL 0) (kReg (sC (cFn 102) [(xT 0), (xT 1)] sEnd))
 kSkip)
theorem t56 : FF d56 Tryz.f56 a56 [] := ff Tryz.func56 (by kernel_rfl)
def x56 : XFn := .go a56 2 pd0 []
def d57 : FD := ⟨57, 2, [4, 5, 6]⟩
def a57 : CodeF := (kSeq (kReg (sS 2 (xK (int .u32 (.ofNat 0))) (sS 3 (xK (int .u32 (.ofNat 0))) sEnd)))
 (kSeq (kReg (sV (oConv .u64 (xT 0)) (sV (oConv .u64 (xT 1)) (sV (oBin .mul .no (xL 1) (xL 0)) (sS 4 (xL 0) sEnd)))))
 (kSeq (kReg (sV (oBin .shr .no (xT 4) (xK (int .u64 (.ofNat 32)))) (sV (oConv .u32 (xL 0)) (sV (oConv .u32 (xT 4)) (sS 2 (xL 1) (sS 3 (xL 0) sEnd))))))
 kRet)))
theorem t57 : FF d57 Tryz.f57 a57 [(.t 2), (.t 3)] := ff Tryz.func57 (by kernel_rfl)
def x57 : XFn := .go a57 2 pd3 [(.t 2), (.t 3)]
def d58 : FD := ⟨58, 2, [4, 5, 8, 6, 10, 7, 11, 9, 12, 13]⟩
def a58 : CodeF := (kSeq (kReg (sS 2 (xK (int .u64 (.ofNat 0))) (sS 3 (xK (int .u64 (.ofNat 0))) sEnd)))
 (kSeq (kReg (sV (oBin .and .no (xT 0) (xK (int .u64 (.ofNat 4294967295)))) (sS 5 (xL 0) sEnd)))
 (kSeq (kReg (sV (oBin .shr .no (xT 0) (xK (int .u64 (.ofNat 32)))) (sS 7 (xL 0) sEnd)))
 (kSeq (kReg (sV (oBin .and .no (xT 1) (xK (int .u64 (.ofNat 4294967295)))) (sS 4 (xL 0) sEnd)))
 (kSeq (kReg (sV (oBin .shr .no (xT 1) (xK (int .u64 (.ofNat 32)))) (sS 9 (xL 0) sEnd)))
 (kSeq (kReg (sV (oBin .mul .no (xT 5) (xT 4)) (sS 6 (xL 0) sEnd)))
 (kSeq (kReg (sV (oBin .mul .no (xT 7) (xT 4)) (sV (oBin .shr .no (xT 6) (xK (int .u64 (.ofNat 32)))) (sV (oBin .add .no (xL 1) (xL 0)) (sS 8 (xL 0) sEnd)))))
 (kSeq (kReg (sV (oBin .and .no (xT 8) (xK (int .u64 (.ofNat 4294967295)))) (sS 10 (xL 0) sEnd)))
 (kSeq (kReg (sV (oBin .shr .no (xT 8) (xK (int .u64 (.ofNat 32)))) (sS 11 (xL 0) sEnd)))
 (kSeq (kReg (sV (oMov (xT 10)) (sV (oBin .mul .no (xT 5) (xT 9)) (sV (oBin .add .no (xL 1) (xL 0)) (sS 10 (xL 0) sEnd)))))
 (kSeq (kReg (sV (oBin .mul .no (xT 7) (xT 9)) (sV (oBin .add .no (xL 0) (xT 11)) (sV (oBin .shr .no (xT 10) (xK (int .u64 (.ofNat 32)))) (sV (oBin .add .no (xL 1) (xL 0)) (sS 2 (xL 0) sEnd))))))
 (kSeq (kReg (sV (oBin .mul .no (xT 0) (xT 1)) (sS 3 (xL 0) sEnd)))
 kRet))))))))))))
theorem t58 : FF d58 Tryz.f58 a58 [(.t 2), (.t 3)] := ff Tryz.func58 (by kernel_rfl)
def x58 : XFn := .go a58 2 pd10 [(.t 2), (.t 3)]
def d59 : FD := ⟨59, 2, [4, 2, 17, 18, 19, 16, 5, 7]⟩
def a59 : CodeF := (kSeq (kReg (sH (oBox 31 1 (xT 0)) (sS 3 (xL 0) (sS 2 (ki 0) sEnd))))
 (kSeq (kBlock 0 (kRegC (fun k => (sV (oLoadN 1 (xT 3)) (sC (cFn 29) [(xL 0)] (sV (oBin .neq .no (xL 0) (ki 0)) k)))) (xL 0) (kSeq (kReg (sS 2 (ki 80) sEnd))
 kRet)
 (kRegC (fun k => (sV (oLenL (xT 1)) (sV (oBin .gtr .no (xL 0) (ki 16384)) k))) (xL 0) (kSeq (kReg (sS 2 (ki 3) sEnd))
 kRet)
 kSkip)))
 (kSeq (kReg (sS 8 (xK (int .u64 (.ofNat 0))) sEnd))
 (kSeq (kSeq (kReg (sS 7 (xT 1) (sV (oLenL (xT 7)) (sS 4 (xL 0) (sS 5 (ki 0) sEnd)))))
 (kBlock 1 (kLoop (kSeq (kReg (sV (oBin .lss .no (xT 5) (xT 4)) (sS 6 (xL 0) sEnd)))
 (kSeq (kCond (xT 6) kSkip
 (kExit 1))
 (kSeq (kBlock 2 (kSeq (kReg (sV (oIaddr 2 (xT 7) (xT 5)) (sV (oLoadN 2 (xL 0)) (sH (oAlloc 70 2 [(int .u64 (.ofNat 0)), nils]) (sS 9 (xL 0) (sH (oStore 2 (xT 9) (xL 1)) sEnd))))))
 (kSeq (kRegC (fun k => (sV (oFaddr 0 (xT 9)) (sV (oLoad (xL 0)) (sV (oBin .leq .no (xL 0) (xT 8)) k)))) (xL 0) (kSeq (kReg (sS 2 (ki 1) sEnd))
 kRet)
 kSkip)
 (kReg (sV (oFaddr 0 (xT 9)) (sV (oLoad (xL 0)) (sS 8 (xL 0) sEnd)))))))
 (kReg (sV (oBin .add .no (xT 5) (ki 1)) (sS 5 (xL 0) sEnd)))))))))
 (kSeq (kReg (sS 2 (ki 0) sEnd))
 kRet)))))
theorem t59 : FF d59 Tryz.f59 a59 [(.t 2)] := ff Tryz.func59 (by kernel_rfl)
def x59 : XFn := .go a59 2 pd8 [(.t 2)]
def d60 : FD := ⟨60, 2, [4, 5, 2, 6, 3, 38, 39, 40, 37, 11, 12, 9, 15, 14, 8, 13, 62, 63, 64, 61, 17, 18, 7]⟩
def a60 : CodeF := (kSeq (kReg (sH (oBox 31 1 (xT 0)) (sS 4 (xL 0) (sH (oBox 68 1 (xT 1)) (sS 6 (xL 0) (sS 2 (xK nils) (sS 3 (ki 0) sEnd)))))))
 (kSeq (kSeq (kReg (sV (oLoadN 1 (xT 4)) (sC (cFn 29) [(xL 0)] (sS 5 (xL 0) sEnd))))
 (kRegC (fun k => (sV (oBin .neq .no (xT 5) (ki 0)) k)) (xL 0) (kSeq (kReg (sS 2 (xK nils) (sS 3 (xT 5) sEnd)))
 kRet)
 kSkip))
 (kSeq (kRegC (fun k => (sV (oFaddr 0 (xT 6)) (sV (oLoad (xL 0)) (sV (oLenL (xL 0)) (sV (oBin .gtr .no (xL 0) (ki 64)) k))))) (xL 0) (kSeq (kReg (sS 2 (xK nils) (sS 3 (ki 84) sEnd)))
 kRet)
 kSkip)
 (kSeq (kReg (sS 24 (xK nils) sEnd))
 (kSeq (kDraw [(.v (oFaddr 0 (xT 4)), none), (.v (oLoad (xL 0)), none), (.v (oLenL (xL 0)), none), (.v (oFaddr 0 (xT 4)), none), (.v (oLoad (xL 0)), none), (.v (oLenL (xL 0)), none), (.f (oMksl 3 1 [(int .i64 (.ofNat 0))] (xL 3) (xL 3)), none), (.f (oAlloc 40 1 [nils]), none), (.f (oAlloc 40 1 [nils]), none), (.h (oStore 1 (xL 1) (xL 2)), none), (.f (oMksl 3 1 [(int .i64 (.ofNat 0))] (xL 4) (xL 4)), none), (.h (oStore 1 (xL 2) (xL 0)), none)] 4 [none, none, none, none, none, none, none, none, none, none, none, none, none, (some 3), none, none, (some 4), none, none, none, none, none, none, none, none] [(7, 2)])
 (kSeq (kSeq (kReg (sV (oFaddr 0 (xT 6)) (sV (oLoad (xL 0)) (sS 10 (xL 0) (sV (oLenL (xT 10)) (sS 7 (xL 0) (sS 8 (ki 0) sEnd)))))))
 (kBlock 0 (kLoop (kSeq (kReg (sV (oBin .lss .no (xT 8) (xT 7)) (sS 9 (xL 0) sEnd)))
 (kSeq (kCond (xT 9) kSkip
 (kExit 0))
 (kSeq (kBlock 1 (kSeq (kReg (sV (oIaddr 3 (xT 10) (xT 8)) (sV (oLoadN 3 (xL 0)) (sH (oAlloc 65 3 [(str []), (str []), nils]) (sS 11 (xL 0) (sH (oStore 3 (xT 11) (xL 1)) sEnd))))))
 (kSeq (kReg (sV (oLoadN 1 (xT 4)) (sV (oFaddr 0 (xT 11)) (sV (oLoad (xL 0)) (sC (cFn 44) [(xL 2), (xL 0)] (sV (oExt 0 (xL 0)) (sV (oExt 1 (xL 1)) (sH (oAlloc 3 1 [(int .i64 (.ofNat 0))]) (sS 12 (xL 0) (sH (oAlloc 4 1 [(bool false)]) (sS 17 (xL 0) (sH (oStore 1 (xT 12) (xL 3)) (sH (oStore 1 (xT 17) (xL 3)) sEnd)))))))))))))
 (kSeq (kReg (sV (oFaddr 0 (xT 4)) (sV (oLoad (xL 0)) (sV (oLoad (xT 12)) (sV (oIaddr 7 (xL 1) (xL 0)) (sV (oLoadN 7 (xL 0)) (sH (oAlloc 42 7 [(str []), (int .i64 (.ofNat 0)), nils, (int .i64 (.ofNat 0)), (int .i64 (.ofNat 0)), (bool false), (bool false)]) (sS 15 (xL 0) (sH (oStore 7 (xT 15) (xL 1)) sEnd)))))))))
 (kSeq (kReg (sV (oLoad (xT 12)) (sV (oBuild [(int .i64 (.ofNat 0)), (str []), nils] [(0, 1, (xL 0))]) (sH (oAlloc 154 3 [(int .i64 (.ofNat 0)), (str []), nils]) (sS 14 (xL 0) (sH (oStore 3 (xT 14) (xL 1)) sEnd))))))
 (kSeq (kSeq (kReg (sV (oMkfn 103 [] [(xT 17)]) (sV (oMkfn 105 [] [(xT 15), (xT 11)]) (sV (oMkfn 107 [] [(xT 15), (xT 16), (xT 12)]) (sV (oMkfn 108 [] [(xT 15), (xT 11), (xT 14), (xT 13), (xT 12)]) (sH (oBsl 172 1 4 [nilfunc] [(0, 1, (xL 3)), (1, 1, (xL 2)), (2, 1, (xL 1)), (3, 1, (xL 0))]) (sS 21 (xL 0) (sV (oLenL (xT 21)) (sS 18 (xL 0) (sS 19 (ki 0) sEnd))))))))))
 (kBlock 2 (kLoop (kSeq (kReg (sV (oBin .lss .no (xT 19) (xT 18)) (sS 20 (xL 0) sEnd)))
 (kSeq (kCond (xT 20) kSkip
 (kExit 2))
 (kSeq (kBlock 3 (kSeq (kReg (sV (oIaddr 1 (xT 21) (xT 19)) (sV (oLoad (xL 0)) (sS 22 (xL 0) sEnd))))
 (kSeq (kReg (sC (cVal (xT 22)) [] (sS 23 (xL 0) sEnd)))
 (kRegC (fun k => (sV (oBin .neq .no (xT 23) (ki 0)) k)) (xL 0) (kSeq (kReg (sS 2 (xK nils) (sS 3 (xT 23) sEnd)))
 kRet)
 kSkip))))
 (kReg (sV (oBin .add .no (xT 19) (ki 1)) (sS 19 (xL 0) sEnd)))))))))
 (kSeq (kReg (sV (oLoad (xT 16)) (sV (oLoad (xT 12)) (sV (oIaddr 1 (xL 1) (xL 0)) (sV (oLoad (xL 0)) (sV (oBin .add .no (xL 0) (ki 1)) (sV (oIaddr 1 (xL 4) (xL 3)) (sH (oStore 1 (xL 0) (xL 1)) sEnd))))))))
 (kReg (sV (oMov (xT 24)) (sV (oLoadN 3 (xT 14)) (sH (oBsl 154 3 1 [(int .i64 (.ofNat 0)), (str []), nils] [(0, 3, (xL 0))]) (sH (oApp 154 3 (xL 2) (xL 0)) (sS 24 (xL 0) sEnd)))))))))))))
 (kReg (sV (oBin .add .no (xT 8) (ki 1)) (sS 8 (xL 0) sEnd)))))))))
 (kSeq (kReg (sS 2 (xT 24) (sS 3 (ki 0) sEnd)))
 kRet)))))))
theorem t60 : FF d60 Tryz.f60 a60 [(.t 2), (.t 3)] := ff Tryz.func60 (by kernel_rfl)
def x60 : XFn := .go a60 2 pd23 [(.t 2), (.t 3)]
def d61 : FD := ⟨61, 1, [2, 1, 12, 13, 14, 11, 5, 4, 3]⟩
def a61 : CodeF := (kSeq (kReg (sH (oBox 68 1 (xT 0)) (sS 2 (xL 0) (sH (oAlloc 68 1 [nils]) (sS 1 (xL 0) sEnd)))))
 (kSeq (kReg (sV (oFaddr 0 (xT 2)) (sV (oLoad (xL 0)) (sV (oLenL (xL 0)) (sH (oMksl 65 3 [(str []), (str []), nils] (xL 0) (xL 0)) (sS 9 (xL 0) sEnd))))))
 (kSeq (kSeq (kReg (sV (oFaddr 0 (xT 2)) (sV (oLoad (xL 0)) (sS 6 (xL 0) (sV (oLenL (xT 6)) (sS 3 (xL 0) (sS 4 (ki 0) sEnd)))))))
 (kBlock 0 (kLoop (kSeq (kReg (sV (oBin .lss .no (xT 4) (xT 3)) (sS 5 (xL 0) sEnd)))
 (kSeq (kCond (xT 5) kSkip
 (kExit 0))
 (kSeq (kBlock 1 (kSeq (kReg (sV (oIaddr 3 (xT 6) (xT 4)) (sV (oLoadN 3 (xL 0)) (sH (oAlloc 65 3 [(str []), (str []), nils]) (sS 7 (xL 0) (sS 8 (xT 4) (sH (oStore 3 (xT 7) (xL 1)) sEnd)))))))
 (kSeq (kReg (sV (oFaddr 2 (xT 7)) (sV (oLoad (xL 0)) (sC (cFn 111) [(xL 0)] (sC (cFn 110) [(xL 0)] (sV (oFaddr 2 (xT 7)) (sH (oStore 1 (xL 0) (xL 1)) sEnd)))))))
 (kReg (sV (oLoadN 3 (xT 7)) (sV (oIaddr 3 (xT 9) (xT 8)) (sH (oStore 3 (xL 0) (xL 1)) sEnd)))))))
 (kReg (sV (oBin .add .no (xT 4) (ki 1)) (sS 4 (xL 0) sEnd)))))))))
 (kSeq (kReg (sV (oBuild [nils] [(0, 1, (xT 9))]) (sH (oStore 1 (xT 1) (xL 0)) sEnd)))
 kRet))))
theorem t61 : FF d61 Tryz.f61 a61 [(.cell 1 (some 1))] := ff Tryz.func61 (by kernel_rfl)
def x61 : XFn := .go a61 1 pd9 [(.cell 1 (some 1))]
def d62 : FD := ⟨62, 1, [2]⟩
def a62 : CodeF := (kSeq (kReg (sS 1 (xK nilfunc) sEnd))
 (kSeq (kDraw [(.v (oMov (xT 0)), none), (.v (oMkfn 112 [(xL 0)] []), none), (.v (oMov (xT 0)), none), (.v (oMkfn 113 [(xL 0)] []), none), (.v (oMov (xT 0)), none), (.v (oMkfn 114 [(xL 0)] []), none), (.v (oMov (xT 0)), none), (.v (oMkfn 114 [(xL 0)] []), none), (.v (oMov (xT 0)), none), (.v (oMkfn 115 [(xL 0)] []), none), (.h (oBsl 150 1 6 [nilfunc] [(1, 1, (xL 8)), (2, 1, (xL 6)), (3, 1, (xL 4)), (4, 1, (xL 2)), (5, 1, (xL 0))]), none), (.v (oMov (xT 0)), none), (.v (oNilc (xL 0)), none), (.v (oFaddr 6 (xL 0)), none), (.v (oFaddr 0 (xL 0)), none), (.v (oLoad (xL 0)), none), (.v (oMov (xT 0)), none), (.v (oNilc (xL 0)), none), (.v (oFaddr 7 (xL 0)), none), (.v (oLoad (xL 0)), none), (.v (oIaddr 7 (xL 4) (xL 0)), none), (.v (oFaddr 1 (xL 0)), none), (.v (oLoad (xL 0)), none), (.v (oIaddr 1 (xL 12) (xL 0)), none), (.v (oLoad (xL 0)), none), (.v (oMov (xL 0)), none)] 0 [none, (some 0)] [(10, 15), (6, 15), (3, 15)])
 kRet))
theorem t62 : FF d62 Tryz.f62 a62 [(.t 1)] := ff Tryz.func62 (by kernel_rfl)
def x62 : XFn := .go a62 1 pd1 [(.t 1)]
def d63 : FD := ⟨63, 2, [4, 5, 6, 7]⟩
def a63 : CodeF := (kSeq (kReg (sS 2 (xK nils) sEnd))
 (kSeq (kReg (sC (cFn 116) [(xT 0), (xT 1)] (sS 3 (xL 0) sEnd)))
 (kSeq (kRegC (fun k => (sV (oBin .eql .no (xT 3) (xK (int .i64 (.negSucc 0)))) k)) (xL 0) (kSeq (kReg (sS 2 (xT 0) sEnd))
 kRet)
 kSkip)
 (kSeq (kSeq (kReg (sV (oBin .add .no (xT 3) (ki 1)) (sS 4 (xL 0) sEnd)))
 (kBlock 0 (kLoop (kSeq (kRegC (fun k => (sV (oLenL (xT 0)) (sV (oBin .lss .no (xT 4) (xL 0)) k))) (xL 0) kSkip
 (kExit 0))
 (kSeq (kBlock 1 (kSeq (kReg (sV (oIaddr 3 (xT 0) (xT 4)) (sV (oLoadN 3 (xL 0)) (sH (oAlloc 154 3 [(int .i64 (.ofNat 0)), (str []), nils]) (sS 5 (xL 0) (sH (oStore 3 (xT 5) (xL 1)) sEnd))))))
 (kRegC (fun k => (sV (oLoadN 3 (xT 5)) (sC (cVal (xT 1)) [(xL 0)] (sV (oUn .not (xL 0)) k)))) (xL 0) (kSeq (kReg (sV (oLoadN 3 (xT 5)) (sV (oIaddr 3 (xT 0) (xT 3)) (sH (oStore 3 (xL 0) (xL 1)) sEnd))))
 (kReg (sV (oMov (xT 3)) (sV (oBin .add .no (xL 0) (ki 1)) (sS 3 (xL 0) sEnd)))))
 kSkip)))
 (kReg (sV (oMov (xT 4)) (sV (oBin .add .no (xL 0) (ki 1)) (sS 4 (xL 0) sEnd)))))))))
 (kSeq (kReg (sV (oSlc 3 (xT 0) (some (xT 3)) none none) (sH (oClr [(int .i64 (.ofNat 0)), (str []), nils] (xL 0)) sEnd)))
 (kSeq (kReg (sV (oSlc 3 (xT 0) none (some (xT 3)) none) (sS 2 (xL 0) sEnd)))
 kRet))))))
theorem t63 : FF d63 Tryz.f63 a63 [(.t 2)] := ff Tryz.func63 (by kernel_rfl)
def x63 : XFn := .go a63 2 pd4 [(.t 2)]
def d64 : FD := ⟨64, 1, [2]⟩
def a64 : CodeF := (kSeq (kReg (sS 1 (xK nils) sEnd))
 (kSeq (kRegC (fun k => (sV (oBin .eql .slice (xT 0) (xK nils)) k)) (xL 0) (kSeq (kReg (sS 1 (xK nils) sEnd))
 kRet)
 kSkip)
 (kSeq (kReg (sH (oBsl 154 3 0 [(int .i64 (.ofNat 0)), (str []), nils] []) (sH (oApp 154 3 (xL 0) (xT 0)) (sS 1 (xL 0) sEnd))))
 kRet)))
theorem t64 : FF d64 Tryz.f64 a64 [(.t 1)] := ff Tryz.func64 (by kernel_rfl)
def x64 : XFn := .go a64 1 pd1 [(.t 1)]
def d65 : FD := ⟨65, 2, [3, 2]⟩
def a65 : CodeF := (kSeq (kReg (sH (oBox 154 3 (xT 0)) (sS 3 (xL 0) (sS 2 (xK (bool false)) sEnd))))
 (kSeq (kReg (sV (oFaddr 0 (xT 3)) (sV (oLoad (xL 0)) (sV (oLoad (xT 1)) (sV (oBin .neq .no (xL 1) (xL 0)) (sS 2 (xL 0) sEnd))))))
 kRet))
theorem t65 : FF d65 Tryz.f65 a65 [(.t 2)] := ff Tryz.func65 (by kernel_rfl)
def x65 : XFn := .go a65 2 pd2 [(.t 2)]
def d66 : FD := ⟨66, 1, [2, 16, 17, 18, 15, 4, 5, 30, 31, 32, 29, 8, 6, 9]⟩
def a66 : CodeF := (kSeq (kReg (sH (oAlloc 143 6 [nils, nils, nils, nils, nils, nils]) (sS 1 (xL 0) sEnd)))
 (kSeq (kSeq (kReg (sV (oNilc (xT 0)) (sV (oFaddr 8 (xL 0)) (sV (oLoad (xL 0)) (sC (cFn 118) [(xL 0)] (sC (cFn 117) [(xL 0)] (sS 5 (xL 0) (sV (oLenL (xT 5)) (sS 2 (xL 0) (sS 3 (ki 0) sEnd))))))))))
 (kBlock 0 (kLoop (kSeq (kReg (sV (oBin .lss .no (xT 3) (xT 2)) (sS 4 (xL 0) sEnd)))
 (kSeq (kCond (xT 4) kSkip
 (kExit 0))
 (kSeq (kBlock 1 (kSeq (kReg (sV (oIaddr 1 (xT 5) (xT 3)) (sV (oLoad (xL 0)) (sS 6 (xL 0) sEnd))))
 (kSeq (kReg (sV (oNilc (xT 0)) (sV (oFaddr 8 (xL 0)) (sV (oLoad (xL 0)) (sV (oLook .str nilmap false (xL 0) (xT 6)) (sS 7 (xL 0) sEnd))))))
 (kSeq (kReg (sS 13 (xK nils) sEnd))
 (kSeq (kSeq (kReg (sC (cFn 120) [(xT 7)] (sC (cFn 119) [(xL 0)] (sS 11 (xL 0) (sV (oLenL (xT 11)) (sS 8 (xL 0) (sS 9 (ki 0) sEnd)))))))
 (kBlock 2 (kLoop (kSeq (kReg (sV (oBin .lss .no (xT 9) (xT 8)) (sS 10 (xL 0) sEnd)))
 (kSeq (kCond (xT 10) kSkip
 (kExit 2))
 (kSeq (kBlock 3 (kSeq (kReg (sV (oIaddr 1 (xT 11) (xT 9)) (sV (oLoad (xL 0)) (sS 12 (xL 0) sEnd))))
 (kReg (sV (oMov (xT 13)) (sV (oLook .int nils false (xT 7) (xT 12)) (sC (cFn 98) [(xL 0)] (sV (oBuild [(int .i64 (.ofNat 0)), nils] [(0, 1, (xT 12)), (1, 1, (xL 0))]) (sH (oBsl 233 2 1 [(int .i64 (.ofNat 0)), nils] [(0, 2, (xL 0))]) (sH (oApp 233 2 (xL 4) (xL 0)) (sS 13 (xL 0) sEnd))))))))))
 (kReg (sV (oBin .add .no (xT 9) (ki 1)) (sS 9 (xL 0) sEnd)))))))))
 (kSeq (kReg (sV (oNilc (xT 0)) (sV (oFaddr 0 (xL 0)) (sV (oFaddr 0 (xL 0)) (sV (oLoad (xL 0)) (sH (oBsl 9 1 1 [(str [])] [(0, 1, (xT 6))]) (sH (oApp 9 1 (xL 1) (xL 0)) (sV (oNilc (xT 0)) (sV (oFaddr 0 (xL 0)) (sV (oFaddr 0 (xL 0)) (sH (oStore 1 (xL 0) (xL 3)) sEnd)))))))))))
 (kDraw [(.v (oMov (xT 0)), none), (.v (oMov (xT 0)), none), (.v (oNilc (xL 0)), none), (.v (oFaddr 0 (xL 0)), none), (.v (oFaddr 1 (xL 0)), none), (.v (oLoad (xL 0)), none), (.v (oMov (xT 13)), none), (.c (cFn 121) [(xL 0)], none), (.h (oBsl 229 1 1 [nils] [(0, 1, (xL 0))]), none), (.h (oApp 229 1 (xL 3) (xL 0)), none), (.v (oNilc (xL 9)), none), (.v (oFaddr 0 (xL 0)), none), (.v (oFaddr 1 (xL 0)), none), (.h (oStore 1 (xL 0) (xL 3)), none)] 0 [none, none, none, none, none, none, none, none, none, none, none, none, none, none, none] [(8, 6), (8, 5)])))))))
 (kReg (sV (oBin .add .no (xT 3) (ki 1)) (sS 3 (xL 0) sEnd)))))))))
 (kSeq (kReg (sV (oNilc (xT 0)) (sV (oFaddr 0 (xL 0)) (sS 14 (xL 0) sEnd))))
 (kSeq (kDraw [(.v (oMov (xT 14)), none), (.v (oMov (xT 14)), none), (.v (oMov (xT 14)), none), (.v (oMov (xT 14)), none), (.v (oMov (xT 14)), none), (.v (oMov (xT 14)), none), (.v (oMov (xT 14)), none), (.v (oNilc (xL 0)), none), (.v (oFaddr 0 (xL 0)), none), (.v (oLoad (xL 0)), none), (.c (cFn 122) [(xL 0)], none), (.v (oMov (xT 14)), none), (.v (oNilc (xL 0)), none), (.v (oFaddr 1 (xL 0)), none), (.v (oLoad (xL 0)), none), (.c (cFn 123) [(xL 0)], none), (.v (oMov (xT 14)), none), (.v (oNilc (xL 0)), none), (.v (oFaddr 2 (xL 0)), none), (.v (oLoad (xL 0)), none), (.c (cFn 110) [(xL 0)], none), (.v (oMov (xT 14)), none), (.v (oNilc (xL 0)), none), (.v (oFaddr 3 (xL 0)), none), (.v (oLoad (xL 0)), none), (.c (cFn 124) [(xL 0)], none), (.v (oMov (xT 14)), none), (.v (oNilc (xL 0)), none), (.v (oFaddr 4 (xL 0)), none), (.v (oLoad (xL 0)), none), (.c (cFn 125) [(xL 0)], none), (.v (oMov (xT 14)), none), (.v (oNilc (xL 0)), none), (.v (oFaddr 5 (xL 0)), none), (.v (oLoad (xL 0)), none), (.c (cFn 126) [(xL 0)], none), (.v (oNilc (xL 35)), none), (.v (oFaddr 0 (xL 0)), none), (.h (oStore 1 (xL 0) (xL 27)), none), (.v (oNilc (xL 37)), none), (.v (oFaddr 1 (xL 0)), none), (.h (oStore 1 (xL 0) (xL 25)), none), (.v (oNilc (xL 39)), none), (.v (oFaddr 2 (xL 0)), none), (.h (oStore 1 (xL 0) (xL 23)), none), (.v (oNilc (xL 41)), none), (.v (oFaddr 3 (xL 0)), none), (.h (oStore 1 (xL 0) (xL 21)), none), (.v (oNilc (xL 43)), none), (.v (oFaddr 4 (xL 0)), none), (.h (oStore 1 (xL 0) (xL 19)), none), (.v (oNilc (xL 45)), none), (.v (oFaddr 5 (xL 0)), none), (.h (oStore 1 (xL 0) (xL 17)), none)] 0 [none, none, none, none, none, none, none, none, none, none, none, none, none, none, none] [(39, 43), (34, 43), (34, 38), (29, 43), (29, 38), (29, 33), (24, 43), (24, 38), (24, 33), (24, 28), (19, 43), (19, 38), (19, 33), (19, 28), (19, 23)])
 (kSeq (kReg (sV (oNilc (xT 0)) (sV (oFaddr 0 (xL 0)) (sV (oLoadN 6 (xL 0)) (sH (oStore 6 (xT 1) (xL 0)) sEnd)))))
 kRet)))))
theorem t66 : FF d66 Tryz.f66 a66 [(.cell 1 (some 6))] := ff Tryz.func66 (by kernel_rfl)
def x66 : XFn := .go a66 1 pd14 [(.cell 1 (some 6))]
def d67 : FD := ⟨67, 1, [2]⟩
def a67 : CodeF := (kSeq (kReg (sS 1 (xK nils) sEnd))
 (kSeq (kReg (sV (oLenL (xT 0)) (sV (oLenL (xT 0)) (sV (oSlc 1 (xT 0) none (some (xL 1)) (some (xL 0))) (sS 1 (xL 0) sEnd)))))
 kRet))
theorem t67 : FF d67 Tryz.f67 a67 [(.t 1)] := ff Tryz.func67 (by kernel_rfl)
def x67 : XFn := .go a67 1 pd1 [(.t 1)]
def d68 : FD := ⟨68, 1, [2]⟩
def a68 : CodeF := (kSeq (kReg (sS 1 (xK nils) sEnd))
 (kSeq (kReg (sV (oLenL (xT 0)) (sV (oLenL (xT 0)) (sV (oSlc 6 (xT 0) none (some (xL 1)) (some (xL 0))) (sS 1 (xL 0) sEnd)))))
 kRet))
theorem t68 : FF d68 Tryz.f68 a68 [(.t 1)] := ff Tryz.func68 (by kernel_rfl)
def x68 : XFn := .go a68 1 pd1 [(.t 1)]
end
end Go.Proofs.YtohoankmbhlafabGreatDoor
