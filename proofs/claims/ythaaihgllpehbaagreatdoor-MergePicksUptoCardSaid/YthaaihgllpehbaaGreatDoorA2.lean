import Derived.Test.YthaaihgllpehbaaGreatDoorP
import Derived.Test.YthaaihgllpehbaaGreatDoorProg
import Derived.KernelRfl
/- The functions of the program as the interpreter has them; each is the program's, by the kernel. -/
set_option maxRecDepth 1000000
namespace Go.Proofs.YthaaihgllpehbaaGreatDoor
open Go Go.Ai AVal
noncomputable section
def d77 : FD := ⟨77, 2, [4]⟩
def a77 : CodeF := (kSeq (kReg (sS 2 (xK nils) sEnd))
 (kSeq (kRegC (fun k => (sV (oBin .neq .no (xT 1) (ki 0)) k)) (xL 0) (kReg (sV (oBuild [(int .i64 (.ofNat 0))] [(0, 1, (xT 1))]) (sV (oMkif 127 (xL 0)) (sPan (xL 0)))))
 kSkip)
 (kSeq (kReg (sS 2 (xT 0) sEnd))
 kRet)))
theorem t77 : FF d77 Tryz.f77 a77 [(.t 2)] := ff Tryz.func77 (by kernel_rfl)
def x77 : XFn := .go a77 2 pd1 [(.t 2)]
def d78 : FD := ⟨78, 1, [2]⟩
def a78 : CodeF := (kSeq (kReg (sS 1 (ki 0) sEnd))
 (kSeq (kRegC (fun k => (sV (oBin .eql .ptr (xT 0) (xK nilptr)) k)) (xL 0) (kSeq (kReg (sS 1 (ki 20) sEnd))
 kRet)
 kSkip)
 (kSeq (kReg (sV (oNilc (xT 0)) (sV (oFaddr 2 (xL 0)) (sV (oLoad (xL 0)) (sS 1 (xL 0) sEnd)))))
 kRet)))
theorem t78 : FF d78 Tryz.f78 a78 [(.t 1)] := ff Tryz.func78 (by kernel_rfl)
def x78 : XFn := .go a78 1 pd1 [(.t 1)]
def d79 : FD := ⟨79, 2, [4]⟩
def a79 : CodeF := (kSeq (kReg (sS 2 (xK nilptr) sEnd))
 (kSeq (kRegC (fun k => (sV (oBin .neq .no (xT 1) (ki 0)) k)) (xL 0) (kReg (sV (oBuild [(int .i64 (.ofNat 0))] [(0, 1, (xT 1))]) (sV (oMkif 127 (xL 0)) (sPan (xL 0)))))
 kSkip)
 (kSeq (kReg (sS 2 (xT 0) sEnd))
 kRet)))
theorem t79 : FF d79 Tryz.f79 a79 [(.t 2)] := ff Tryz.func79 (by kernel_rfl)
def x79 : XFn := .go a79 2 pd1 [(.t 2)]
def d80 : FD := ⟨80, 1, [2, 3, 4, 5, 34, 35, 36, 6, 8, 7, 9, 92, 93, 94, 10, 11, 116, 117, 118, 129, 130, 131, 128, 14, 135, 136, 137, 12, 16]⟩
def a80 : CodeF := (kSeq (kReg (sH (oAlloc 73 1 [nilptr]) (sS 1 (xL 0) (sH (oAlloc 33 1 [(int .i64 (.ofNat 0))]) (sS 2 (xL 0) sEnd)))))
 (kSeq (kReg (sV (oMkfn 143 [] [(xT 1), (xT 2)]) (sDef (xL 0) [] sEnd)))
 (kSeq (kReg (sC (cFn 72) [(xT 0)] (sS 3 (xL 0) sEnd)))
 (kSeq (kReg (sC (cFn 73) [(xT 3), (ki 16384)] (sV (oBuild [nils, (int .i64 (.ofNat 0))] [(1, 1, (xL 0))]) (sH (oBox 121 2 (xL 0)) (sH (oStore 1 (xT 1) (xL 0)) sEnd)))))
 (kSeq (kReg (sV (oLoad (xT 1)) (sV (oNilc (xL 0)) (sV (oFaddr 1 (xL 0)) (sV (oLoad (xL 0)) (sC (cFn 73) [(xT 3), (xL 0)] (sS 4 (xL 0) sEnd)))))))
 (kSeq (kReg (sC (cFn 102) [(xT 3), (xK (bool true))] sEnd))
 (kSeq (kDraw [(.v (oMov (xT 4)), none), (.h (oMksl 3 1 [(int .i64 (.ofNat 0))] (xL 0) (xL 0)), none), (.v (oMov (ki 0)), none), (.v (oMov (xL 1)), none)] 0 [none, none, none, none, none, none, none, none, (some 1), none, (some 0), none, none, none, none, none, none, none, none, none, none, none, none, none, none, none, none, none, none, none] [])
 (kSeq (kSeq (kReg (sS 5 (xT 4) (sS 6 (ki 0) sEnd)))
 (kBlock 0 (kLoop (kSeq (kReg (sV (oBin .lss .no (xT 6) (xT 5)) (sS 7 (xL 0) sEnd)))
 (kSeq (kCond (xT 7) kSkip
 (kExit 0))
 (kSeq (kBlock 1 (kSeq (kReg (sS 9 (xT 6) sEnd))
 (kSeq (kReg (sC (cFn 73) [(xT 3), (ki 16384)] (sV (oBin .add .no (xT 8) (xL 0)) (sV (oBuild [(int .i64 (.ofNat 0)), (int .i64 (.ofNat 0)), nils] [(0, 1, (xT 8)), (1, 1, (xL 0))]) (sH (oAlloc 119 3 [(int .i64 (.ofNat 0)), (int .i64 (.ofNat 0)), nils]) (sS 11 (xL 0) (sH (oStore 3 (xT 11) (xL 1)) sEnd)))))))
 (kSeq (kReg (sV (oLenL (xT 0)) (sC (cFn 73) [(xT 3), (xL 0)] (sV (oIaddr 1 (xT 10) (xT 9)) (sH (oStore 1 (xL 0) (xL 1)) sEnd)))))
 (kSeq (kDraw [(.v (oMov (xT 3)), none), (.v (oFaddr 1 (xT 11)), none), (.v (oLoad (xL 0)), none), (.v (oFaddr 0 (xT 11)), none), (.v (oLoad (xL 0)), none), (.v (oBin .gtr .no (xL 2) (xL 0)), none), (.v (oMov (xL 0)), none), (.v (oFaddr 1 (xT 11)), (some ((xL 0), true))), (.v (oLoad (xL 0)), (some ((xL 1), true))), (.v (oLoad (xT 1)), (some ((xL 2), true))), (.v (oNilc (xL 0)), (some ((xL 3), true))), (.v (oFaddr 1 (xL 0)), (some ((xL 4), true))), (.v (oLoad (xL 0)), (some ((xL 5), true))), (.v (oBin .leq .no (xL 4) (xL 0)), (some ((xL 6), true))), (.v (oPick (xL 7) (xL 0) (xK (bool false))), none), (.c (cFn 102) [(xL 14), (xL 0)], none)] 0 [none, none, none, none, none, none, none, none, none, none, none, none, none, none, none, none, none, none, none, none, none, none, none, none, none, none, none, none, none, none] [])
 (kSeq (kDraw [(.v (oLoad (xT 1)), none), (.v (oLoad (xT 1)), none), (.v (oNilc (xL 0)), none), (.v (oFaddr 0 (xL 0)), none), (.v (oLoad (xL 0)), none), (.v (oLoadN 3 (xT 11)), none), (.h (oBsl 119 3 1 [(int .i64 (.ofNat 0)), (int .i64 (.ofNat 0)), nils] [(0, 3, (xL 0))]), none), (.h (oApp 119 3 (xL 2) (xL 0)), none), (.v (oNilc (xL 7)), none), (.v (oFaddr 0 (xL 0)), none), (.h (oStore 1 (xL 0) (xL 2)), none)] 0 [none, none, none, none, none, none, none, none, none, none, none, none, none, none, none, none, none, none, none, none, none, none, none, none, none, none, none, none, none, none] [(10, 4), (10, 3), (9, 4), (6, 4)])
 (kReg (sV (oFaddr 1 (xT 11)) (sV (oLoad (xL 0)) (sS 8 (xL 0) sEnd))))))))))
 (kReg (sV (oBin .add .no (xT 6) (ki 1)) (sS 6 (xL 0) sEnd)))))))))
 (kSeq (kReg (sV (oLoad (xT 1)) (sV (oNilc (xL 0)) (sV (oFaddr 1 (xL 0)) (sV (oLoad (xL 0)) (sV (oBin .eql .no (xT 8) (xL 0)) (sC (cFn 102) [(xT 3), (xL 0)] sEnd)))))))
 (kSeq (kSeq (kReg (sV (oLoad (xT 1)) (sV (oNilc (xL 0)) (sV (oFaddr 0 (xL 0)) (sV (oLoad (xL 0)) (sV (oLenL (xL 0)) (sS 12 (xL 0) (sS 13 (ki 0) sEnd))))))))
 (kBlock 2 (kLoop (kSeq (kReg (sV (oBin .lss .no (xT 13) (xT 12)) (sS 14 (xL 0) sEnd)))
 (kSeq (kCond (xT 14) kSkip
 (kExit 2))
 (kSeq (kBlock 3 (kSeq (kReg (sS 15 (xT 13) sEnd))
 (kSeq (kReg (sV (oLoad (xT 1)) (sV (oNilc (xL 0)) (sV (oFaddr 0 (xL 0)) (sV (oLoad (xL 0)) (sV (oIaddr 3 (xL 0) (xT 15)) (sS 16 (xL 0) sEnd)))))))
 (kSeq (kReg (sV (oIaddr 1 (xT 10) (xT 15)) (sV (oLoad (xL 0)) (sC (cFn 75) [(xT 3), (xL 0)] (sV (oNilc (xT 16)) (sV (oFaddr 2 (xL 0)) (sH (oStore 1 (xL 0) (xL 2)) sEnd)))))))
 (kSeq (kReg (sC (cFn 102) [(xT 3), (xK (bool true))] sEnd))
 (kSeq (kReg (sV (oNilc (xT 16)) (sV (oLoadN 3 (xL 0)) (sC (cFn 58) [(xL 0)] (sS 17 (xL 0) sEnd)))))
 (kBlock 4 (kRf 8796772487998 [18, 19] (xT 17)))))))))
 (kReg (sV (oBin .add .no (xT 13) (ki 1)) (sS 13 (xL 0) sEnd)))))))))
 (kSeq (kReg (sC (cFn 76) [(xT 3)] (sV (oBin .eql .no (xL 0) (ki 0)) (sC (cFn 102) [(xT 3), (xL 0)] sEnd))))
 (kSeq (kReg (sH (oAlloc 183 1 [nils]) (sS 28 (xL 0) sEnd)))
 (kSeq (kSeq (kReg (sV (oLoad (xT 1)) (sV (oNilc (xL 0)) (sV (oFaddr 0 (xL 0)) (sV (oLoad (xL 0)) (sS 23 (xL 0) (sV (oLenL (xT 23)) (sS 20 (xL 0) (sS 21 (ki 0) sEnd)))))))))
 (kBlock 6 (kLoop (kSeq (kReg (sV (oBin .lss .no (xT 21) (xT 20)) (sS 22 (xL 0) sEnd)))
 (kSeq (kCond (xT 22) kSkip
 (kExit 6))
 (kSeq (kBlock 7 (kSeq (kReg (sV (oIaddr 3 (xT 23) (xT 21)) (sV (oLoadN 3 (xL 0)) (sH (oAlloc 119 3 [(int .i64 (.ofNat 0)), (int .i64 (.ofNat 0)), nils]) (sS 24 (xL 0) (sH (oStore 3 (xT 24) (xL 1)) sEnd))))))
 (kSeq (kReg (sV (oLoadN 3 (xT 24)) (sC (cFn 58) [(xL 0)] (sS 25 (xL 0) sEnd))))
 (kBlock 8 (kRf 8796772498022 [26, 27] (xT 25))))))
 (kReg (sV (oBin .add .no (xT 21) (ki 1)) (sS 21 (xL 0) sEnd)))))))))
 (kSeq (kReg (sV (oLoad (xT 28)) (sC (cFn 84) [(xL 0)] (sC (cFn 144) [(xL 0), (xT 0)] (sC (cFn 102) [(xT 3), (xL 0)] sEnd)))))
 (kSeq (kReg (sV (oLoad (xT 1)) (sH (oStore 1 (xT 1) (xL 0)) (sH (oStore 1 (xT 2) (ki 0)) sEnd))))
 kRet)))))))))))))))
theorem t80 : FF d80 Tryz.f80 a80 [(.cell 1 none), (.cell 2 none)] := ff Tryz.func80 (by kernel_rfl)
def x80 : XFn := .go a80 1 pd29 [(.cell 1 none), (.cell 2 none)]
def r80x0 : CodeF × CodeF := (kSkip,
 (kBlock 5 kSkip))
theorem u80x0 : RfFact Tryz.prog d80 Tryz.f80 8796772487998 r80x0 := ⟨Tryz.func80, by kernel_rfl⟩
def r80x1 : CodeF × CodeF := ((kReg (sS 29 (xT 27) sEnd)),
 (kBlock 9 (kReg (sV (oLoad (xT 28)) (sH (oBsl 59 1 1 [nils] [(0, 1, (xT 29))]) (sH (oApp 59 1 (xL 1) (xL 0)) (sH (oStore 1 (xT 28) (xL 0)) sEnd)))))))
theorem u80x1 : RfFact Tryz.prog d80 Tryz.f80 8796772498022 r80x1 := ⟨Tryz.func80, by kernel_rfl⟩
def d81 : FD := ⟨81, 3, [6, 3, 33, 34, 35, 9, 7, 10, 8, 69, 13, 11, 100]⟩
def a81 : CodeF := (kSeq (kReg (sH (oBox 67 7 (xT 0)) (sS 4 (xL 0) (sH (oAlloc 181 6 [nilptr, nils, nils, nilptr, nilptr, nilptr]) (sS 3 (xL 0) sEnd)))))
 (kSeq (kRegC (fun k => (sV (oFaddr 1 (xT 4)) (sV (oLoad (xL 0)) (sV (oBin .eql .no (xL 0) (ki 1)) (sG (xL 0) false (sV (oFaddr 1 (xT 4))) (sG (xL 1) false (sV (oLoad (xL 0))) (sG (xL 2) false (sV (oBin .eql .no (xL 0) (ki 2))) (sV (oPick (xL 3) (xK (bool true)) (xL 0)) k)))))))) (xL 0) (kSeq (kReg (sC (cVal (xT 2)) [] (sC (cFn 146) [(xL 0)] (sV (oExt 0 (xL 0)) (sV (oExt 1 (xL 1)) (sC (cFn 145) [(xL 1), (xL 0)] (sV (oFaddr 0 (xT 3)) (sH (oStore 1 (xL 0) (xL 1)) sEnd))))))))
 (kSeq (kReg (sC (cVal (xT 2)) [] (sS 9 (xL 0) sEnd)))
 (kSeq (kReg (sS 11 (xK (int .u64 (.ofNat 0))) sEnd))
 (kSeq (kReg (sV (oFaddr 0 (xT 3)) (sV (oLoad (xL 0)) (sC (cFn 147) [(xL 0)] (sS 5 (xL 0) (sS 6 (ki 0) sEnd))))))
 (kBlock 0 (kLoop (kSeq (kReg (sV (oBin .lss .no (xT 6) (xT 5)) (sS 7 (xL 0) sEnd)))
 (kSeq (kCond (xT 7) kSkip
 (kExit 0))
 (kSeq (kBlock 1 (kSeq (kReg (sS 8 (xT 6) sEnd))
 (kSeq (kReg (sV (oFaddr 0 (xT 3)) (sV (oLoad (xL 0)) (sC (cFn 148) [(xL 0), (xT 8)] (sS 10 (xL 0) sEnd)))))
 (kSeq (kRegC (fun k => (sV (oBin .lss .no (xT 10) (xT 11)) (sG (xL 0) false (sV (oMov (xT 10))) (sG (xL 1) false (sV (oMov (xT 9))) (sG (xL 2) false (sV (oLenL (xL 0))) (sG (xL 3) false (sV (oConv .u64 (xL 0))) (sG (xL 4) false (sV (oBin .gtr .no (xL 3) (xL 0))) (sV (oPick (xL 5) (xK (bool true)) (xL 0)) k)))))))) (xL 0) (kReg (sV (oBuild [(int .i64 (.ofNat 0))] [(0, 1, (ki 20))]) (sV (oMkif 127 (xL 0)) (sPan (xL 0)))))
 kSkip)
 (kSeq (kDraw [(.v (oFaddr 1 (xT 3)), none), (.v (oLoad (xL 0)), none), (.v (oMov (xT 9)), none), (.v (oMov (xT 11)), none), (.v (oMov (xT 10)), none), (.v (oSlc 1 (xL 2) (some (xL 1)) (some (xL 0)) none), none), (.c (cFn 150) [(xL 0)], none), (.v (oExt 0 (xL 0)), none), (.v (oExt 1 (xL 1)), none), (.c (cFn 149) [(xL 1), (xL 0)], none), (.h (oBsl 261 1 1 [nilptr] [(0, 1, (xL 0))]), none), (.h (oApp 261 1 (xL 9) (xL 0)), none), (.v (oFaddr 1 (xT 3)), none), (.h (oStore 1 (xL 0) (xL 1)), none)] 0 [none, none, none, none, none, none, none, none, none, none, none, none, none, none, none, none] [(12, 7), (12, 4), (12, 3)])
 (kReg (sS 11 (xT 10) sEnd)))))))
 (kReg (sV (oBin .add .no (xT 6) (ki 1)) (sS 6 (xL 0) sEnd))))))))))))
 kSkip)
 (kSeq (kSeq (kReg (sV (oFaddr 1 (xT 4)) (sV (oLoad (xL 0)) (sS 12 (xL 0) sEnd))))
 (kBlock 2 (kRegC (fun k => (sV (oBin .eql .no (xT 12) (ki 1)) k)) (xL 0) (kSeq (kReg (sC (cVal (xT 2)) [] (sC (cFn 74) [(xL 0), (xT 1)] (sV (oExt 0 (xL 0)) (sV (oExt 1 (xL 1)) (sV (oExt 2 (xL 2)) (sS 14 (xL 2) (sS 13 (xL 0) sEnd))))))))
 (kReg (sC (cFn 77) [(xT 14), (xT 13)] (sV (oFaddr 2 (xT 3)) (sH (oStore 1 (xL 0) (xL 1)) sEnd)))))
 (kRegC (fun k => (sV (oBin .eql .no (xT 12) (ki 2)) k)) (xL 0) (kReg (sC (cVal (xT 2)) [] (sC (cFn 152) [(xL 0)] (sV (oExt 0 (xL 0)) (sV (oExt 1 (xL 1)) (sC (cFn 151) [(xL 1), (xL 0)] (sV (oFaddr 3 (xT 3)) (sH (oStore 1 (xL 0) (xL 1)) sEnd))))))))
 (kSeq (kRegC (fun k => (sV (oBin .eql .no (xT 12) (ki 3)) (sS 15 (xL 0) k))) (xT 15) kSkip
 (kReg (sV (oBin .eql .no (xT 12) (ki 4)) (sS 15 (xL 0) sEnd))))
 (kCond (xT 15) (kSeq (kReg (sC (cVal (xT 2)) [] (sC (cFn 154) [(xL 0)] (sV (oExt 0 (xL 0)) (sV (oExt 1 (xL 1)) (sC (cFn 153) [(xL 1), (xL 0)] (sV (oFaddr 4 (xT 3)) (sH (oStore 1 (xL 0) (xL 1)) sEnd))))))))
 (kReg (sC (cVal (xT 2)) [] (sC (cFn 156) [(xL 0)] (sV (oExt 0 (xL 0)) (sV (oExt 1 (xL 1)) (sC (cFn 155) [(xL 1), (xL 0)] (sV (oFaddr 5 (xT 3)) (sH (oStore 1 (xL 0) (xL 1)) sEnd)))))))))
 (kReg (sC (cVal (xT 2)) [] (sC (cFn 156) [(xL 0)] (sV (oExt 0 (xL 0)) (sV (oExt 1 (xL 1)) (sC (cFn 155) [(xL 1), (xL 0)] (sV (oFaddr 5 (xT 3)) (sH (oStore 1 (xL 0) (xL 1)) sEnd))))))))))))))
 (kSeq (kReg (sV (oLoadN 6 (xT 3)) (sH (oStore 6 (xT 3) (xL 0)) sEnd)))
 kRet))))
theorem t81 : FF d81 Tryz.f81 a81 [(.cell 3 (some 6))] := ff Tryz.func81 (by kernel_rfl)
def x81 : XFn := .go a81 3 pd13 [(.cell 3 (some 6))]
def d82 : FD := ⟨82, 2, [4]⟩
def a82 : CodeF := (kSeq (kReg (sS 2 (xK nils) sEnd))
 (kSeq (kReg (sC (cFn 157) [(xT 0), (xT 1), (xK (.func (.func 158) [] []))] (sS 2 (xL 0) sEnd)))
 kRet))
theorem t82 : FF d82 Tryz.f82 a82 [(.t 2)] := ff Tryz.func82 (by kernel_rfl)
def x82 : XFn := .go a82 2 pd1 [(.t 2)]
def d83 : FD := ⟨83, 1, [2, 11, 12, 4, 19, 20, 21, 18, 5, 8, 7, 6, 3, 9]⟩
def a83 : CodeF := (kSeq (kReg (sS 1 (xK nils) sEnd))
 (kSeq (kReg (sH (oAlloc 48 1 [nils]) (sS 13 (xL 0) sEnd)))
 (kSeq (kSeq (kReg (sC (cFn 159) [(xT 0), (ki 128)] (sS 2 (xL 0) sEnd)))
 (kBlock 0 (kRf 33557114 [3] (xT 2))))
 (kSeq (kReg (sV (oLoad (xT 13)) (sC (cFn 27) [(xL 0)] (sS 1 (xL 0) sEnd))))
 kRet))))
theorem t83 : FF d83 Tryz.f83 a83 [(.t 1)] := ff Tryz.func83 (by kernel_rfl)
def x83 : XFn := .go a83 1 pd14 [(.t 1)]
def r83x0 : CodeF × CodeF := ((kReg (sS 4 (xT 3) sEnd)),
 (kBlock 1 (kSeq (kReg (sC (cFn 160) [(xT 4)] (sS 9 (xL 0) sEnd)))
 (kSeq (kReg (sV (oLenL (xT 4)) (sH (oMksl 41 1 [(int .u64 (.ofNat 0))] (xL 0) (xL 0)) (sS 12 (xL 0) sEnd))))
 (kSeq (kSeq (kReg (sS 8 (xT 4) (sV (oLenL (xT 8)) (sS 5 (xL 0) (sS 6 (ki 0) sEnd)))))
 (kBlock 2 (kLoop (kSeq (kReg (sV (oBin .lss .no (xT 6) (xT 5)) (sS 7 (xL 0) sEnd)))
 (kSeq (kCond (xT 7) kSkip
 (kExit 2))
 (kSeq (kBlock 3 (kSeq (kReg (sV (oIaddr 1 (xT 8) (xT 6)) (sV (oLoad (xL 0)) (sS 11 (xT 6) (sS 10 (xL 0) sEnd)))))
 (kReg (sV (oConv .u64 (xT 10)) (sV (oConv .u64 (xT 9)) (sV (oBin .sub .no (xL 1) (xL 0)) (sV (oIaddr 1 (xT 12) (xT 11)) (sH (oStore 1 (xL 0) (xL 1)) sEnd))))))))
 (kReg (sV (oBin .add .no (xT 6) (ki 1)) (sS 6 (xL 0) sEnd)))))))))
 (kSeq (kReg (sC (cFn 139) [(xT 12)] (sS 14 (xL 0) sEnd)))
 (kSeq (kReg (sV (oLoad (xT 13)) (sC (cFn 161) [(xL 0), (xT 9)] (sH (oStore 1 (xT 13) (xL 0)) sEnd))))
 (kReg (sV (oLoad (xT 13)) (sV (oConv .u8 (xT 14)) (sH (oBsl 5 1 1 [(int .u8 (.ofNat 0))] [(0, 1, (xL 0))]) (sH (oApp 5 1 (xL 2) (xL 0)) (sC (cFn 162) [(xT 12), (xT 14)] (sH (oApp 5 1 (xL 1) (xL 0)) (sH (oStore 1 (xT 13) (xL 0)) sEnd)))))))))))))))
theorem u83x0 : RfFact Tryz.prog d83 Tryz.f83 33557114 r83x0 := ⟨Tryz.func83, by kernel_rfl⟩
def d84 : FD := ⟨84, 1, [2, 4, 3, 26, 27, 28, 25, 7, 5, 47, 48, 49, 46, 9]⟩
def a84 : CodeF := (kSeq (kReg (sS 1 (xK nils) sEnd))
 (kSeq (kReg (sC (cFn 163) [(xT 0)] (sV (oExt 0 (xL 0)) (sV (oExt 1 (xL 1)) (sS 3 (xL 1) (sS 2 (xL 0) sEnd))))))
 (kSeq (kRegC (fun k => (sV (oUn .not (xT 2)) k)) (xL 0) (kSeq (kReg (sS 1 (xK nils) sEnd))
 kRet)
 kSkip)
 (kSeq (kReg (sV (oLenL (xT 0)) (sV (oConv .u64 (xL 0)) (sC (cFn 82) [(xK nils), (xL 0)] (sV (oLenL (xT 3)) (sV (oConv .u64 (xL 0)) (sC (cFn 82) [(xL 2), (xL 0)] (sS 9 (xL 0) sEnd))))))))
 (kSeq (kSeq (kReg (sS 7 (xT 3) (sV (oLenL (xT 7)) (sS 4 (xL 0) (sS 5 (ki 0) sEnd)))))
 (kBlock 0 (kLoop (kSeq (kReg (sV (oBin .lss .no (xT 5) (xT 4)) (sS 6 (xL 0) sEnd)))
 (kSeq (kCond (xT 6) kSkip
 (kExit 0))
 (kSeq (kBlock 1 (kSeq (kReg (sV (oIaddr 3 (xT 7) (xT 5)) (sV (oLoadN 3 (xL 0)) (sH (oAlloc 119 3 [(int .i64 (.ofNat 0)), (int .i64 (.ofNat 0)), nils]) (sS 8 (xL 0) (sH (oStore 3 (xT 8) (xL 1)) sEnd))))))
 (kDraw [(.v (oMov (xT 9)), none), (.v (oFaddr 1 (xT 8)), none), (.v (oLoad (xL 0)), none), (.v (oFaddr 0 (xT 8)), none), (.v (oLoad (xL 0)), none), (.v (oBin .sub .no (xL 2) (xL 0)), none), (.v (oConv .u64 (xL 0)), none), (.c (cFn 82) [(xK nils), (xL 0)], none), (.v (oFaddr 2 (xT 8)), none), (.v (oLoad (xL 0)), none), (.v (oLenL (xL 0)), none), (.v (oConv .u64 (xL 0)), none), (.c (cFn 82) [(xL 4), (xL 0)], none), (.h (oApp 5 1 (xL 12) (xL 0)), none), (.v (oMov (xL 0)), none)] 0 [none, none, none, none, none, none, none, none, none, (some 0), none, none, none, none, none] [(5, 7)])))
 (kReg (sV (oBin .add .no (xT 5) (ki 1)) (sS 5 (xL 0) sEnd)))))))))
 (kSeq (kSeq (kReg (sS 13 (xT 3) (sV (oLenL (xT 13)) (sS 10 (xL 0) (sS 11 (ki 0) sEnd)))))
 (kBlock 2 (kLoop (kSeq (kReg (sV (oBin .lss .no (xT 11) (xT 10)) (sS 12 (xL 0) sEnd)))
 (kSeq (kCond (xT 12) kSkip
 (kExit 2))
 (kSeq (kBlock 3 (kSeq (kReg (sV (oIaddr 3 (xT 13) (xT 11)) (sV (oLoadN 3 (xL 0)) (sH (oAlloc 119 3 [(int .i64 (.ofNat 0)), (int .i64 (.ofNat 0)), nils]) (sS 14 (xL 0) (sH (oStore 3 (xT 14) (xL 1)) sEnd))))))
 (kReg (sV (oMov (xT 9)) (sV (oFaddr 2 (xT 14)) (sV (oLoad (xL 0)) (sH (oApp 5 1 (xL 2) (xL 0)) (sS 9 (xL 0) sEnd))))))))
 (kReg (sV (oBin .add .no (xT 11) (ki 1)) (sS 11 (xL 0) sEnd)))))))))
 (kSeq (kReg (sS 1 (xT 9) sEnd))
 kRet)))))))
theorem t84 : FF d84 Tryz.f84 a84 [(.t 1)] := ff Tryz.func84 (by kernel_rfl)
def x84 : XFn := .go a84 1 pd14 [(.t 1)]
def d85 : FD := ⟨85, 2, [4, 2, 6, 3, 25]⟩
def a85 : CodeF := (kSeq (kReg (sH (oBox 67 7 (xT 0)) (sS 3 (xL 0) (sH (oBox 142 6 (xT 1)) (sS 5 (xL 0) (sS 2 (xK nils) sEnd))))))
 (kSeq (kSeq (kReg (sV (oFaddr 1 (xT 3)) (sV (oLoad (xL 0)) (sS 4 (xL 0) sEnd))))
 (kBlock 0 (kRegC (fun k => (sV (oBin .eql .no (xT 4) (ki 1)) k)) (xL 0) (kSeq (kDraw [(.v (oLoadN 6 (xT 5)), none), (.c (cFn 164) [(xL 0)], none), (.v (oFaddr 2 (xT 5)), none), (.v (oLoad (xL 0)), none), (.c (cFn 83) [(xL 0)], none), (.h (oBsl 48 1 1 [nils] [(0, 1, (xL 0))]), none), (.h (oApp 48 1 (xL 4) (xL 0)), none), (.v (oMov (xL 0)), none)] 0 [none, none, (some 0), none, none, none, none] [(4, 6)])
 kRet)
 (kRegC (fun k => (sV (oBin .eql .no (xT 4) (ki 2)) k)) (xL 0) (kSeq (kDraw [(.v (oLoadN 6 (xT 5)), none), (.c (cFn 164) [(xL 0)], none), (.v (oFaddr 3 (xT 5)), none), (.v (oLoad (xL 0)), none), (.c (cFn 165) [(xL 0)], none), (.h (oBsl 48 1 1 [nils] [(0, 1, (xL 0))]), none), (.h (oApp 48 1 (xL 4) (xL 0)), none), (.v (oMov (xL 0)), none)] 0 [none, none, (some 0), none, none, none, none] [(4, 6)])
 kRet)
 (kSeq (kRegC (fun k => (sV (oBin .eql .no (xT 4) (ki 3)) (sS 6 (xL 0) k))) (xT 6) kSkip
 (kReg (sV (oBin .eql .no (xT 4) (ki 4)) (sS 6 (xL 0) sEnd))))
 (kCond (xT 6) (kSeq (kDraw [(.v (oFaddr 4 (xT 5)), none), (.v (oLoad (xL 0)), none), (.c (cFn 166) [(xL 0)], none), (.v (oFaddr 5 (xT 5)), none), (.v (oLoad (xL 0)), none), (.c (cFn 167) [(ki 1), (xL 0)], none), (.h (oBsl 48 1 2 [nils] [(0, 1, (xL 3)), (1, 1, (xL 0))]), none), (.v (oMov (xL 0)), none)] 0 [none, none, (some 0), none, none, none, none] [(3, 5)])
 kRet)
 kSkip))))))
 (kSeq (kDraw [(.v (oLoadN 7 (xT 3)), none), (.c (cFn 168) [(xL 0)], none), (.v (oFaddr 5 (xT 5)), none), (.v (oLoad (xL 0)), none), (.c (cFn 167) [(xL 2), (xL 0)], none), (.h (oBsl 48 1 1 [nils] [(0, 1, (xL 0))]), none), (.v (oMov (xL 0)), none)] 0 [none, none, (some 0), none, none, none, none] [(3, 5)])
 kRet)))
theorem t85 : FF d85 Tryz.f85 a85 [(.t 2)] := ff Tryz.func85 (by kernel_rfl)
def x85 : XFn := .go a85 2 pd5 [(.t 2)]
def d86 : FD := ⟨86, 2, [4]⟩
def a86 : CodeF := (kSeq (kReg (sS 2 (xK nils) sEnd))
 (kSeq (kRegC (fun k => (sV (oBin .neq .no (xT 1) (ki 0)) k)) (xL 0) (kReg (sV (oBuild [(int .i64 (.ofNat 0))] [(0, 1, (xT 1))]) (sV (oMkif 127 (xL 0)) (sPan (xL 0)))))
 kSkip)
 (kSeq (kReg (sS 2 (xT 0) sEnd))
 kRet)))
theorem t86 : FF d86 Tryz.f86 a86 [(.t 2)] := ff Tryz.func86 (by kernel_rfl)
def x86 : XFn := .go a86 2 pd1 [(.t 2)]
def d87 : FD := ⟨87, 2, [4, 5, 23, 24, 25, 22, 9, 6, 7]⟩
def a87 : CodeF := (kSeq (kReg (sS 2 (xK nils) (sS 3 (ki 0) sEnd)))
 (kSeq (kRegC (fun k => (sV (oLenL (xT 1)) (sV (oBin .gtr .no (xL 0) (ki 1024)) k))) (xL 0) (kSeq (kReg (sS 2 (xK nils) (sS 3 (ki 3) sEnd)))
 kRet)
 kSkip)
 (kSeq (kReg (sH (oBsl 5 1 3 [(int .u8 (.ofNat 0))] [(0, 1, (xK (int .u8 (.ofNat 76)))), (1, 1, (xK (int .u8 (.ofNat 84)))), (2, 1, (xK (int .u8 (.ofNat 1))))]) (sH (oMark (xL 0)) (sH (oBsl 5 1 1 [(int .u8 (.ofNat 0))] [(0, 1, (xT 0))]) (sH (oApp 5 1 (xL 1) (xL 0)) (sV (oLenL (xT 1)) (sV (oConv .u64 (xL 0)) (sC (cFn 82) [(xL 2), (xL 0)] (sS 9 (xL 0) sEnd)))))))))
 (kSeq (kReg (sS 10 (ki 4) sEnd))
 (kSeq (kSeq (kReg (sS 7 (xT 1) (sV (oLenL (xT 7)) (sS 4 (xL 0) (sS 5 (ki 0) sEnd)))))
 (kBlock 0 (kLoop (kSeq (kReg (sV (oBin .lss .no (xT 5) (xT 4)) (sS 6 (xL 0) sEnd)))
 (kSeq (kCond (xT 6) kSkip
 (kExit 0))
 (kSeq (kBlock 1 (kSeq (kReg (sV (oIaddr 1 (xT 7) (xT 5)) (sV (oLoad (xL 0)) (sS 8 (xL 0) sEnd))))
 (kSeq (kReg (sV (oMov (xT 9)) (sV (oLenL (xT 8)) (sV (oConv .u64 (xL 0)) (sC (cFn 82) [(xL 2), (xL 0)] (sS 9 (xL 0) sEnd))))))
 (kSeq (kReg (sV (oMov (xT 10)) (sV (oLenL (xT 8)) (sV (oBin .add .no (xL 1) (xL 0)) (sS 10 (xL 0) sEnd)))))
 (kRegC (fun k => (sV (oBin .gtr .no (xT 10) (ki 16777216)) k)) (xL 0) (kSeq (kReg (sS 2 (xK nils) (sS 3 (ki 3) sEnd)))
 kRet)
 kSkip)))))
 (kReg (sV (oBin .add .no (xT 5) (ki 1)) (sS 5 (xL 0) sEnd)))))))))
 (kSeq (kRegC (fun k => (sV (oLenL (xT 9)) (sV (oBin .add .no (xL 0) (xT 10)) (sV (oBin .gtr .no (xL 0) (ki 16777216)) k)))) (xL 0) (kSeq (kReg (sS 2 (xK nils) (sS 3 (ki 3) sEnd)))
 kRet)
 kSkip)
 (kSeq (kReg (sV (oMov (xT 9)) (sC (cFn 169) [(xT 1)] (sH (oApp 5 1 (xL 1) (xL 0)) (sS 9 (xL 0) sEnd)))))
 (kSeq (kReg (sH (oBsl 48 1 1 [nils] [(0, 1, (xT 9))]) (sC (cFn 131) [(xL 0)] (sC (cFn 130) [(xL 0)] (sH (oApp 5 1 (xT 9) (xL 0)) (sC (cFn 27) [(xL 0)] (sS 2 (xL 0) (sS 3 (ki 0) sEnd))))))))
 kRet))))))))
theorem t87 : FF d87 Tryz.f87 a87 [(.t 2), (.t 3)] := ff Tryz.func87 (by kernel_rfl)
def x87 : XFn := .go a87 2 pd9 [(.t 2), (.t 3)]
def d88 : FD := ⟨88, 2, [4, 7, 8, 9, 5]⟩
def a88 : CodeF := (kSeq (kReg (sS 2 (ki 0) sEnd))
 (kSeq (kSeq (kReg (sV (oLenL (xT 0)) (sS 3 (xL 0) (sS 4 (ki 0) sEnd))))
 (kBlock 0 (kLoop (kSeq (kReg (sV (oBin .lss .no (xT 4) (xT 3)) (sS 5 (xL 0) sEnd)))
 (kSeq (kCond (xT 5) kSkip
 (kExit 0))
 (kSeq (kBlock 1 (kSeq (kReg (sS 6 (xT 4) sEnd))
 (kRegC (fun k => (sV (oIaddr 7 (xT 0) (xT 6)) (sV (oLoadN 7 (xL 0)) (sC (cVal (xT 1)) [(xL 0)] k)))) (xL 0) (kSeq (kReg (sS 2 (xT 6) sEnd))
 kRet)
 kSkip)))
 (kReg (sV (oBin .add .no (xT 4) (ki 1)) (sS 4 (xL 0) sEnd)))))))))
 (kSeq (kReg (sS 2 (xK (int .i64 (.negSucc 0))) sEnd))
 kRet)))
theorem t88 : FF d88 Tryz.f88 a88 [(.t 2)] := ff Tryz.func88 (by kernel_rfl)
def x88 : XFn := .go a88 2 pd5 [(.t 2)]
def d89 : FD := ⟨89, 2, [3, 2]⟩
def a89 : CodeF := (kSeq (kReg (sH (oBox 67 7 (xT 0)) (sS 3 (xL 0) (sS 2 (xK (bool false)) sEnd))))
 (kSeq (kReg (sV (oFaddr 0 (xT 3)) (sV (oLoad (xL 0)) (sV (oLoad (xT 1)) (sV (oBin .eql .no (xL 1) (xL 0)) (sS 2 (xL 0) sEnd))))))
 kRet))
theorem t89 : FF d89 Tryz.f89 a89 [(.t 2)] := ff Tryz.func89 (by kernel_rfl)
def x89 : XFn := .go a89 2 pd2 [(.t 2)]
def d90 : FD := ⟨90, 1, [2, 7, 8, 9, 6, 4, 3]⟩
def a90 : CodeF := (kSeq (kReg (sS 1 (xK (bool false)) sEnd))
 (kSeq (kSeq (kReg (sH (oS2b 5 (xT 0)) (sS 5 (xL 0) (sV (oLenL (xT 5)) (sS 2 (xL 0) (sS 3 (ki 0) sEnd))))))
 (kBlock 0 (kLoop (kSeq (kReg (sV (oBin .lss .no (xT 3) (xT 2)) (sS 4 (xL 0) sEnd)))
 (kSeq (kCond (xT 4) kSkip
 (kExit 0))
 (kSeq (kBlock 1 (kSeq (kReg (sV (oIaddr 1 (xT 5) (xT 3)) (sV (oLoad (xL 0)) (sS 7 (xT 3) (sS 6 (xL 0) sEnd)))))
 (kRegC (fun k => (sV (oBin .geq .no (xT 6) (xK (int .u8 (.ofNat 97)))) (sG (xL 0) true (sV (oMov (xT 6))) (sG (xL 1) true (sV (oBin .leq .no (xL 0) (xK (int .u8 (.ofNat 122))))) (sV (oPick (xL 2) (xL 0) (xK (bool false))) (sG (xL 0) false (sV (oMov (xT 6))) (sG (xL 1) false (sV (oBin .eql .no (xL 0) (xK (int .u8 (.ofNat 95))))) (sV (oPick (xL 2) (xK (bool true)) (xL 0)) (sG (xL 0) false (sV (oMov (xT 7))) (sG (xL 1) false (sV (oBin .gtr .no (xL 0) (ki 0))) (sG (xL 2) false (sV (oMov (xL 0))) (sG (xL 0) true (sV (oMov (xT 6))) (sG (xL 1) true (sV (oBin .geq .no (xL 0) (xK (int .u8 (.ofNat 48))))) (sG (xL 5) false (sV (oPick (xL 2) (xL 0) (xK (bool false)))) (sG (xL 6) false (sV (oMov (xL 0))) (sG (xL 0) true (sV (oMov (xT 6))) (sG (xL 1) true (sV (oBin .leq .no (xL 0) (xK (int .u8 (.ofNat 57))))) (sG (xL 9) false (sV (oPick (xL 2) (xL 0) (xK (bool false)))) (sV (oPick (xL 10) (xK (bool true)) (xL 0)) (sV (oUn .not (xL 0)) k)))))))))))))))))))) (xL 0) (kSeq (kReg (sS 1 (xK (bool false)) sEnd))
 kRet)
 kSkip)))
 (kReg (sV (oBin .add .no (xT 3) (ki 1)) (sS 3 (xL 0) sEnd)))))))))
 (kSeq (kReg (sV (oLenS (xT 0)) (sV (oBin .geq .no (xL 0) (ki 1)) (sG (xL 0) true (sV (oMov (xT 0))) (sG (xL 1) true (sV (oLenS (xL 0))) (sG (xL 2) true (sV (oBin .leq .no (xL 0) (ki 24))) (sV (oPick (xL 3) (xL 0) (xK (bool false))) (sS 1 (xL 0) sEnd))))))))
 kRet)))
theorem t90 : FF d90 Tryz.f90 a90 [(.t 1)] := ff Tryz.func90 (by kernel_rfl)
def x90 : XFn := .go a90 1 pd7 [(.t 1)]
def d92 : FD := ⟨92, 1, [2]⟩
def a92 : CodeF := (kSeq (kReg (sS 1 (xK nils) sEnd))
 (kSeq (kReg (sV (oLenL (xT 0)) (sV (oLenL (xT 0)) (sV (oSlc 7 (xT 0) none (some (xL 1)) (some (xL 0))) (sS 1 (xL 0) sEnd)))))
 kRet))
theorem t92 : FF d92 Tryz.f92 a92 [(.t 1)] := ff Tryz.func92 (by kernel_rfl)
def x92 : XFn := .go a92 1 pd1 [(.t 1)]
def d93 : FD := ⟨93, 1, [2]⟩
def a93 : CodeF := (kSeq (kReg (sS 1 (xK nils) sEnd))
 (kSeq (kRegC (fun k => (sV (oBin .eql .slice (xT 0) (xK nils)) k)) (xL 0) (kSeq (kReg (sS 1 (xK nils) sEnd))
 kRet)
 kSkip)
 (kSeq (kReg (sH (oBsl 67 7 0 [(str []), (int .i64 (.ofNat 0)), nils, (int .i64 (.ofNat 0)), (int .i64 (.ofNat 0)), (bool false), (bool false)] []) (sH (oApp 67 7 (xL 0) (xT 0)) (sS 1 (xL 0) sEnd))))
 kRet)))
theorem t93 : FF d93 Tryz.f93 a93 [(.t 1)] := ff Tryz.func93 (by kernel_rfl)
def x93 : XFn := .go a93 1 pd1 [(.t 1)]
def d94 : FD := ⟨94, 1, [2]⟩
def a94 : CodeF := (kSeq (kReg (sS 1 (xK nils) sEnd))
 (kSeq (kReg (sV (oLenL (xT 0)) (sV (oLenL (xT 0)) (sV (oSlc 1 (xT 0) none (some (xL 1)) (some (xL 0))) (sS 1 (xL 0) sEnd)))))
 kRet))
theorem t94 : FF d94 Tryz.f94 a94 [(.t 1)] := ff Tryz.func94 (by kernel_rfl)
def x94 : XFn := .go a94 1 pd1 [(.t 1)]
def d95 : FD := ⟨95, 1, [2]⟩
def a95 : CodeF := (kSeq (kReg (sS 1 (xK nils) sEnd))
 (kSeq (kRegC (fun k => (sV (oBin .eql .slice (xT 0) (xK nils)) k)) (xL 0) (kSeq (kReg (sS 1 (xK nils) sEnd))
 kRet)
 kSkip)
 (kSeq (kReg (sH (oBsl 3 1 0 [(int .i64 (.ofNat 0))] []) (sH (oApp 3 1 (xL 0) (xT 0)) (sS 1 (xL 0) sEnd))))
 kRet)))
theorem t95 : FF d95 Tryz.f95 a95 [(.t 1)] := ff Tryz.func95 (by kernel_rfl)
def x95 : XFn := .go a95 1 pd1 [(.t 1)]
def d96 : FD := ⟨96, 1, [2, 1]⟩
def a96 : CodeF := (kSeq (kReg (sH (oBox 29 1 (xT 0)) (sS 2 (xL 0) (sS 1 (xK nilfunc) sEnd))))
 (kSeq (kReg (sV (oMkfn 172 [] [(xT 2)]) (sS 1 (xL 0) sEnd)))
 kRet))
theorem t96 : FF d96 Tryz.f96 a96 [(.t 1)] := ff Tryz.func96 (by kernel_rfl)
def x96 : XFn := .go a96 1 pd2 [(.t 1)]
def d97 : FD := ⟨97, 3, [6, 7, 8, 10, 9]⟩
def a97 : CodeF := (kSeq (kReg (sS 3 (xK (bool false)) sEnd))
 (kSeq (kReg (sS 4 (xT 1) sEnd))
 (kSeq (kBlock 0 (kLoop (kBlock 1 (kSeq (kReg (sV (oBin .mul .no (ki 2) (xT 4)) (sV (oBin .add .no (xL 0) (ki 1)) (sS 5 (xL 0) sEnd))))
 (kSeq (kRegC (fun k => (sV (oBin .geq .no (xT 5) (xT 2)) (sG (xL 0) false (sV (oMov (xT 5))) (sG (xL 1) false (sV (oBin .lss .no (xL 0) (ki 0))) (sV (oPick (xL 2) (xK (bool true)) (xL 0)) k))))) (xL 0) (kExit 0)
 kSkip)
 (kSeq (kReg (sS 7 (xT 5) sEnd))
 (kSeq (kSeq (kReg (sV (oBin .add .no (xT 5) (ki 1)) (sS 6 (xL 0) sEnd)))
 (kRegC (fun k => (sV (oBin .lss .no (xT 6) (xT 2)) (sG (xL 0) true (sV (oMov (xT 0))) (sG (xL 1) true (sV (oMov (xT 6))) (sG (xL 2) true (sV (oMov (xT 5))) (sG (xL 3) true (sC (cMeth [(104, 413, [0], false), (106, 413, [], true)] (xL 2)) [(xL 1), (xL 0)]) (sV (oPick (xL 4) (xL 0) (xK (bool false))) k))))))) (xL 0) (kReg (sS 7 (xT 6) sEnd))
 kSkip))
 (kSeq (kRegC (fun k => (sC (cMeth [(104, 413, [0], false), (106, 413, [], true)] (xT 0)) [(xT 7), (xT 4)] (sV (oUn .not (xL 0)) k))) (xL 0) (kExit 0)
 kSkip)
 (kSeq (kReg (sC (cMeth [(104, 415, [0], false), (106, 415, [], true)] (xT 0)) [(xT 4), (xT 7)] sEnd))
 (kReg (sS 4 (xT 7) sEnd)))))))))))
 (kSeq (kReg (sV (oBin .gtr .no (xT 4) (xT 1)) (sS 3 (xL 0) sEnd)))
 kRet))))
theorem t97 : FF d97 Tryz.f97 a97 [(.t 3)] := ff Tryz.func97 (by kernel_rfl)
def x97 : XFn := .go a97 3 pd5 [(.t 3)]
def d99 : FD := ⟨99, 2, [4, 3, 6, 8, 7, 5]⟩
def a99 : CodeF := (kSeq (kReg (sV (oFaddr 2 (xT 1)) (sV (oLoad (xL 0)) (sC (cFn 72) [(xL 0)] (sS 3 (xL 0) sEnd)))))
 (kSeq (kSeq (kReg (sV (oFaddr 0 (xT 1)) (sV (oLoad (xL 0)) (sS 2 (xL 0) sEnd))))
 (kBlock 0 (kLoop (kSeq (kRegC (fun k => (sV (oFaddr 1 (xT 1)) (sV (oLoad (xL 0)) (sV (oBin .lss .no (xT 2) (xL 0)) k)))) (xL 0) kSkip
 (kExit 0))
 (kSeq (kBlock 1 (kSeq (kReg (sS 7 (xK nils) sEnd))
 (kSeq (kSeq (kReg (sC (cFn 73) [(xT 3), (ki 64)] (sS 4 (xL 0) sEnd)))
 (kBlock 2 (kLoop (kSeq (kRegC (fun k => (sV (oBin .gtr .no (xT 4) (ki 0)) k)) (xL 0) kSkip
 (kExit 2))
 (kSeq (kBlock 3 (kSeq (kReg (sC (cFn 100) [(xT 3), (ki 24)] (sC (cFn 100) [(xT 3), (ki 4096)] (sV (oBuild [(str []), (str []), nils] [(0, 1, (xL 1)), (1, 1, (xL 0))]) (sH (oAlloc 71 3 [(str []), (str []), nils]) (sS 6 (xL 0) (sH (oStore 3 (xT 6) (xL 1)) sEnd)))))))
 (kSeq (kSeq (kReg (sC (cFn 73) [(xT 3), (ki 4)] (sS 5 (xL 0) sEnd)))
 (kBlock 4 (kLoop (kSeq (kRegC (fun k => (sV (oBin .gtr .no (xT 5) (ki 0)) k)) (xL 0) kSkip
 (kExit 4))
 (kSeq (kBlock 5 (kDraw [(.v (oFaddr 2 (xT 6)), none), (.v (oLoad (xL 0)), none), (.v (oMov (xT 3)), none), (.c (cFn 101) [(xL 0)], none), (.h (oBsl 2 1 1 [(int .i64 (.ofNat 0))] [(0, 1, (xL 0))]), none), (.h (oApp 2 1 (xL 3) (xL 0)), none), (.v (oFaddr 2 (xT 6)), none), (.h (oStore 1 (xL 0) (xL 1)), none)] 0 [none, none, none, none, none, none, none, none] [(6, 4), (6, 3)]))
 (kReg (sV (oMov (xT 5)) (sV (oBin .sub .no (xL 0) (ki 1)) (sS 5 (xL 0) sEnd)))))))))
 (kSeq (kReg (sC (cFn 102) [(xT 3), (xK (bool true))] sEnd))
 (kReg (sV (oMov (xT 7)) (sV (oLoadN 3 (xT 6)) (sH (oBsl 71 3 1 [(str []), (str []), nils] [(0, 3, (xL 0))]) (sH (oApp 71 3 (xL 2) (xL 0)) (sS 7 (xL 0) sEnd))))))))))
 (kReg (sV (oMov (xT 4)) (sV (oBin .sub .no (xL 0) (ki 1)) (sS 4 (xL 0) sEnd)))))))))
 (kSeq (kReg (sC (cFn 102) [(xT 3), (xK (bool true))] sEnd))
 (kRegC (fun k => (sC (cVal (xT 0)) [(xT 2), (xT 7)] (sV (oUn .not (xL 0)) k))) (xL 0) kRet
 kSkip)))))
 (kReg (sV (oMov (xT 2)) (sV (oBin .add .no (xL 0) (ki 1)) (sS 2 (xL 0) sEnd)))))))))
 (kReg (sC (cFn 76) [(xT 3)] (sV (oBin .eql .no (xL 0) (ki 0)) (sC (cFn 102) [(xT 3), (xL 0)] sEnd))))))
theorem t99 : FF d99 Tryz.f99 a99 [] := ff Tryz.func99 (by kernel_rfl)
def x99 : XFn := .go a99 2 pd6 []
def d100 : FD := ⟨100, 2, [4, 3, 2]⟩
def a100 : CodeF := (kSeq (kReg (sH (oBox 164 1 (xT 0)) (sS 4 (xL 0) (sH (oBox 3 1 (xT 1)) (sS 3 (xL 0) (sS 2 (xK (str [])) sEnd))))))
 (kSeq (kReg (sV (oLoad (xT 4)) (sV (oMkfn 175 [] [(xT 4), (xT 3)]) (sC (cFn 174) [(xL 1), (xL 0)] (sS 2 (xL 0) sEnd)))))
 kRet))
theorem t100 : FF d100 Tryz.f100 a100 [(.t 2)] := ff Tryz.func100 (by kernel_rfl)
def x100 : XFn := .go a100 2 pd3 [(.t 2)]
def d101 : FD := ⟨101, 1, [2, 3]⟩
def a101 : CodeF := (kSeq (kReg (sS 1 (ki 0) sEnd))
 (kSeq (kReg (sV (oMkfn 136 [(xT 0)] []) (sC (cFn 176) [(xT 0), (xL 0)] (sS 2 (xL 0) sEnd))))
 (kSeq (kReg (sV (oBin .shr .no (xT 2) (xK (int .u64 (.ofNat 1)))) (sV (oConv .i64 (xL 0)) (sV (oBin .and .no (xT 2) (xK (int .u64 (.ofNat 1)))) (sV (oConv .i64 (xL 0)) (sV (oUn .neg (xL 0)) (sV (oBin .xor .no (xL 3) (xL 0)) (sS 1 (xL 0) sEnd))))))))
 kRet)))
theorem t101 : FF d101 Tryz.f101 a101 [(.t 1)] := ff Tryz.func101 (by kernel_rfl)
def x101 : XFn := .go a101 1 pd2 [(.t 1)]
def d102 : FD := ⟨102, 2, []⟩
def a102 : CodeF := (kRegC (fun k => (sC (cFn 78) [(xT 0)] (sV (oBin .neq .no (xL 0) (ki 0)) (sG (xL 0) false (sV (oMov (xT 1))) (sG (xL 1) false (sV (oUn .not (xL 0))) (sV (oPick (xL 2) (xK (bool true)) (xL 0)) k)))))) (xL 0) (kReg (sV (oBuild [] []) (sV (oMkif 254 (xL 0)) (sPan (xL 0)))))
 kSkip)
theorem t102 : FF d102 Tryz.f102 a102 [] := ff Tryz.func102 (by kernel_rfl)
def x102 : XFn := .go a102 2 pd0 []
def d103 : FD := ⟨103, 1, [1]⟩
def a103 : CodeF := (kSeq (kReg (sS 1 (ki 0) sEnd))
 (kSeq (kReg (sV (oLoad (xT 0)) (sC (cFn 104) [(xL 0), (ki 81)] (sS 1 (xL 0) sEnd))))
 kRet))
theorem t103 : FF d103 Tryz.f103 a103 [(.t 1)] := ff Tryz.func103 (by kernel_rfl)
def x103 : XFn := .go a103 1 pd1 [(.t 1)]
def d104 : FD := ⟨104, 2, [4]⟩
def a104 : CodeF := (kSeq (kReg (sS 2 (ki 0) sEnd))
 (kSeq (kRegC (fun k => k) (xT 0) (kSeq (kReg (sS 2 (ki 0) sEnd))
 kRet)
 kSkip)
 (kSeq (kReg (sS 2 (xT 1) sEnd))
 kRet)))
theorem t104 : FF d104 Tryz.f104 a104 [(.t 2)] := ff Tryz.func104 (by kernel_rfl)
def x104 : XFn := .go a104 2 pd1 [(.t 2)]
def d105 : FD := ⟨105, 2, [2]⟩
def a105 : CodeF := (kSeq (kReg (sS 2 (ki 0) sEnd))
 (kSeq (kReg (sV (oLoadN 7 (xT 0)) (sV (oFaddr 1 (xT 1)) (sV (oLoad (xL 0)) (sV (oFaddr 2 (xT 1)) (sV (oLoad (xL 0)) (sC (cFn 106) [(xL 4), (xL 2), (xL 0)] (sC (cFn 104) [(xL 0), (ki 82)] (sS 2 (xL 0) sEnd)))))))))
 kRet))
theorem t105 : FF d105 Tryz.f105 a105 [(.t 2)] := ff Tryz.func105 (by kernel_rfl)
def x105 : XFn := .go a105 2 pd1 [(.t 2)]
def d106 : FD := ⟨106, 3, [6, 3, 8]⟩
def a106 : CodeF := (kSeq (kReg (sH (oBox 67 7 (xT 0)) (sS 4 (xL 0) (sS 3 (xK (bool false)) sEnd))))
 (kSeq (kSeq (kReg (sV (oFaddr 1 (xT 4)) (sV (oLoad (xL 0)) (sS 5 (xL 0) sEnd))))
 (kBlock 0 (kRegC (fun k => (sV (oBin .eql .no (xT 5) (ki 3)) k)) (xL 0) (kSeq (kReg (sV (oBin .eql .no (xT 1) (xK (str []))) (sG (xL 0) true (sV (oMov (xT 2))) (sG (xL 1) true (sV (oLenL (xL 0))) (sG (xL 2) true (sV (oBin .eql .no (xL 0) (ki 1))) (sV (oPick (xL 3) (xL 0) (xK (bool false))) (sS 3 (xL 0) sEnd)))))))
 kRet)
 (kRegC (fun k => (sV (oBin .eql .no (xT 5) (ki 5)) k)) (xL 0) (kSeq (kReg (sV (oBin .eql .no (xT 1) (xK (str []))) (sG (xL 0) true (sV (oMov (xT 2))) (sG (xL 1) true (sV (oLenL (xL 0))) (sG (xL 2) true (sV (oFaddr 4 (xT 4))) (sG (xL 3) true (sV (oLoad (xL 0))) (sG (xL 4) true (sV (oBin .eql .no (xL 2) (xL 0))) (sV (oPick (xL 5) (xL 0) (xK (bool false))) (sS 3 (xL 0) sEnd)))))))))
 kRet)
 kSkip))))
 (kSeq (kReg (sV (oLenL (xT 2)) (sV (oBin .eql .no (xL 0) (ki 0)) (sS 3 (xL 0) sEnd))))
 kRet)))
theorem t106 : FF d106 Tryz.f106 a106 [(.t 3)] := ff Tryz.func106 (by kernel_rfl)
def x106 : XFn := .go a106 3 pd3 [(.t 3)]
def d107 : FD := ⟨107, 3, [3]⟩
def a107 : CodeF := (kSeq (kReg (sS 3 (ki 0) sEnd))
 (kSeq (kReg (sV (oFaddr 5 (xT 0)) (sV (oLoad (xL 0)) (sG (xL 0) false (sV (oLoad (xT 1))) (sG (xL 1) false (sV (oLoad (xT 2))) (sG (xL 2) false (sV (oIaddr 1 (xL 1) (xL 0))) (sG (xL 3) false (sV (oLoad (xL 0))) (sG (xL 4) false (sV (oBin .eql .no (xL 0) (ki 0))) (sV (oPick (xL 5) (xK (bool true)) (xL 0)) (sC (cFn 104) [(xL 0), (ki 84)] (sS 3 (xL 0) sEnd)))))))))))
 kRet))
theorem t107 : FF d107 Tryz.f107 a107 [(.t 3)] := ff Tryz.func107 (by kernel_rfl)
def x107 : XFn := .go a107 3 pd1 [(.t 3)]
def d108 : FD := ⟨108, 5, [5]⟩
def a108 : CodeF := (kSeq (kReg (sS 5 (ki 0) sEnd))
 (kSeq (kDraw [(.v (oLoadN 7 (xT 0)), none), (.v (oLoadN 3 (xT 1)), none), (.v (oLoad (xT 3)), none), (.v (oLoad (xT 4)), none), (.v (oIaddr 1 (xL 1) (xL 0)), none), (.c (cFn 109) [(xL 4), (xL 3), (xT 2), (xL 0)], none), (.c (cFn 104) [(xL 0), (ki 83)], none), (.v (oMov (xL 0)), none)] 0 [none, none, none, none, none, (some 0)] [])
 kRet))
theorem t108 : FF d108 Tryz.f108 a108 [(.t 5)] := ff Tryz.func108 (by kernel_rfl)
def x108 : XFn := .go a108 5 pd1 [(.t 5)]
def d109 : FD := ⟨109, 4, [8, 4, 14, 5, 9, 10, 11, 12]⟩
def a109 : CodeF := (kSeq (kReg (sH (oBox 67 7 (xT 0)) (sS 5 (xL 0) (sH (oBox 71 3 (xT 1)) (sS 7 (xL 0) (sS 4 (xK (bool false)) sEnd))))))
 (kSeq (kSeq (kReg (sV (oFaddr 1 (xT 5)) (sV (oLoad (xL 0)) (sS 6 (xL 0) sEnd))))
 (kBlock 0 (kRegC (fun k => (sV (oBin .eql .no (xT 6) (ki 1)) k)) (xL 0) (kSeq (kReg (sV (oFaddr 2 (xT 5)) (sV (oLoad (xL 0)) (sV (oFaddr 1 (xT 7)) (sV (oLoad (xL 0)) (sC (cFn 177) [(xL 2), (xL 0)] (sV (oExt 0 (xL 0)) (sV (oExt 1 (xL 1)) (sS 8 (xL 1) (sS 9 (xL 0) sEnd))))))))))
 (kSeq (kReg (sV (oNilc (xT 3)) (sV (oLoad (xL 0)) (sV (oLenL (xT 8)) (sV (oBin .add .no (xL 1) (xL 0)) (sV (oNilc (xT 3)) (sH (oStore 1 (xL 0) (xL 1)) sEnd)))))))
 (kSeq (kReg (sV (oFaddr 1 (xT 7)) (sV (oLoad (xL 0)) (sV (oNilc (xT 2)) (sV (oFaddr 1 (xL 0)) (sH (oStore 1 (xL 0) (xL 2)) sEnd))))))
 (kSeq (kReg (sV (oBin .eql .no (xT 9) (ki 0)) (sG (xL 0) true (sV (oMov (xT 3))) (sG (xL 1) true (sV (oNilc (xL 0))) (sG (xL 2) true (sV (oLoad (xL 0))) (sG (xL 3) true (sV (oBin .leq .no (xL 0) (ki 4096))) (sV (oPick (xL 4) (xL 0) (xK (bool false))) (sS 4 (xL 0) sEnd))))))))
 kRet))))
 (kRegC (fun k => (sV (oBin .eql .no (xT 6) (ki 2)) k)) (xL 0) (kSeq (kReg (sV (oFaddr 1 (xT 7)) (sV (oLoad (xL 0)) (sV (oNilc (xT 2)) (sV (oFaddr 1 (xL 0)) (sH (oStore 1 (xL 0) (xL 2)) sEnd))))))
 (kSeq (kReg (sV (oFaddr 1 (xT 7)) (sV (oLoad (xL 0)) (sV (oLenS (xL 0)) (sV (oBin .leq .no (xL 0) (ki 256)) (sS 4 (xL 0) sEnd))))))
 kRet))
 (kRegC (fun k => (sV (oBin .eql .no (xT 6) (ki 4)) k)) (xL 0) (kSeq (kReg (sV (oFaddr 1 (xT 7)) (sV (oLoad (xL 0)) (sV (oFaddr 3 (xT 5)) (sV (oLoad (xL 0)) (sC (cFn 178) [(xL 2), (xL 0)] (sV (oExt 0 (xL 0)) (sV (oExt 1 (xL 1)) (sS 10 (xL 1) (sS 11 (xL 0) sEnd))))))))))
 (kSeq (kReg (sH (oBsl 2 1 1 [(int .i64 (.ofNat 0))] [(0, 1, (xT 10))]) (sV (oNilc (xT 2)) (sV (oFaddr 2 (xL 0)) (sH (oStore 1 (xL 0) (xL 2)) sEnd)))))
 (kSeq (kReg (sV (oBin .eql .no (xT 11) (ki 0)) (sS 4 (xL 0) sEnd)))
 kRet)))
 kSkip)))))
 (kSeq (kReg (sV (oFaddr 2 (xT 7)) (sV (oLoad (xL 0)) (sC (cFn 111) [(xL 0)] (sV (oNilc (xT 2)) (sV (oFaddr 2 (xL 0)) (sH (oStore 1 (xL 0) (xL 2)) sEnd)))))))
 (kSeq (kReg (sS 4 (xK (bool true)) sEnd))
 kRet))))
theorem t109 : FF d109 Tryz.f109 a109 [(.t 4)] := ff Tryz.func109 (by kernel_rfl)
def x109 : XFn := .go a109 4 pd8 [(.t 4)]
def d110 : FD := ⟨110, 1, [2]⟩
def a110 : CodeF := (kSeq (kReg (sS 1 (xK nils) sEnd))
 (kSeq (kReg (sV (oLenL (xT 0)) (sV (oLenL (xT 0)) (sV (oSlc 1 (xT 0) none (some (xL 1)) (some (xL 0))) (sS 1 (xL 0) sEnd)))))
 kRet))
theorem t110 : FF d110 Tryz.f110 a110 [(.t 1)] := ff Tryz.func110 (by kernel_rfl)
def x110 : XFn := .go a110 1 pd1 [(.t 1)]
def d111 : FD := ⟨111, 1, [2]⟩
def a111 : CodeF := (kSeq (kReg (sS 1 (xK nils) sEnd))
 (kSeq (kRegC (fun k => (sV (oBin .eql .slice (xT 0) (xK nils)) k)) (xL 0) (kSeq (kReg (sS 1 (xK nils) sEnd))
 kRet)
 kSkip)
 (kSeq (kReg (sH (oBsl 2 1 0 [(int .i64 (.ofNat 0))] []) (sH (oApp 2 1 (xL 0) (xT 0)) (sS 1 (xL 0) sEnd))))
 kRet)))
theorem t111 : FF d111 Tryz.f111 a111 [(.t 1)] := ff Tryz.func111 (by kernel_rfl)
def x111 : XFn := .go a111 1 pd1 [(.t 1)]
def d113 : FD := ⟨113, 3, [12, 13, 14, 11, 8, 6, 29, 30, 31, 28, 10]⟩
def a113 : CodeF := (kSeq (kReg (sS 8 (xK nils) sEnd))
 (kSeq (kSeq (kReg (sS 6 (xT 2) (sV (oLenL (xT 6)) (sS 3 (xL 0) (sS 4 (ki 0) sEnd)))))
 (kBlock 0 (kLoop (kSeq (kReg (sV (oBin .lss .no (xT 4) (xT 3)) (sS 5 (xL 0) sEnd)))
 (kSeq (kCond (xT 5) kSkip
 (kExit 0))
 (kSeq (kBlock 1 (kSeq (kReg (sV (oIaddr 3 (xT 6) (xT 4)) (sV (oLoadN 3 (xL 0)) (sH (oAlloc 153 3 [(int .i64 (.ofNat 0)), (str []), nils]) (sS 7 (xL 0) (sH (oStore 3 (xT 7) (xL 1)) sEnd))))))
 (kReg (sV (oMov (xT 8)) (sV (oFaddr 1 (xT 7)) (sV (oLoad (xL 0)) (sH (oBsl 9 1 1 [(str [])] [(0, 1, (xL 0))]) (sH (oApp 9 1 (xL 3) (xL 0)) (sS 8 (xL 0) sEnd)))))))))
 (kReg (sV (oBin .add .no (xT 4) (ki 1)) (sS 4 (xL 0) sEnd)))))))))
 (kSeq (kReg (sC (cFn 181) [(xT 8)] sEnd))
 (kSeq (kReg (sV (oMov (xT 8)) (sC (cFn 182) [(xL 0)] (sC (cFn 122) [(xL 0)] (sS 8 (xL 0) sEnd)))))
 (kSeq (kSeq (kReg (sS 12 (xT 8) (sV (oLenL (xT 12)) (sS 9 (xL 0) (sS 10 (ki 0) sEnd)))))
 (kBlock 2 (kLoop (kSeq (kReg (sV (oBin .lss .no (xT 10) (xT 9)) (sS 11 (xL 0) sEnd)))
 (kSeq (kCond (xT 11) kSkip
 (kExit 2))
 (kSeq (kBlock 3 (kSeq (kReg (sV (oIaddr 1 (xT 12) (xT 10)) (sV (oLoad (xL 0)) (sS 13 (xL 0) sEnd))))
 (kReg (sC (cFn 180) [(xT 0), (xT 13), (xT 1), (ki 0)] sEnd))))
 (kReg (sV (oBin .add .no (xT 10) (ki 1)) (sS 10 (xL 0) sEnd)))))))))
 (kReg (sV (oNilc (xT 0)) (sV (oFaddr 0 (xL 0)) (sV (oFaddr 3 (xL 0)) (sV (oLoad (xL 0)) (sH (oBsl 136 1 1 [nils] [(0, 1, (xT 8))]) (sH (oApp 136 1 (xL 1) (xL 0)) (sV (oNilc (xT 0)) (sV (oFaddr 0 (xL 0)) (sV (oFaddr 3 (xL 0)) (sH (oStore 1 (xL 0) (xL 3)) sEnd))))))))))))))))
theorem t113 : FF d113 Tryz.f113 a113 [] := ff Tryz.func113 (by kernel_rfl)
def x113 : XFn := .go a113 3 pd11 []
def d116 : FD := ⟨116, 2, [4, 7, 8, 9, 5]⟩
def a116 : CodeF := (kSeq (kReg (sS 2 (ki 0) sEnd))
 (kSeq (kSeq (kReg (sV (oLenL (xT 0)) (sS 3 (xL 0) (sS 4 (ki 0) sEnd))))
 (kBlock 0 (kLoop (kSeq (kReg (sV (oBin .lss .no (xT 4) (xT 3)) (sS 5 (xL 0) sEnd)))
 (kSeq (kCond (xT 5) kSkip
 (kExit 0))
 (kSeq (kBlock 1 (kSeq (kReg (sS 6 (xT 4) sEnd))
 (kRegC (fun k => (sV (oIaddr 3 (xT 0) (xT 6)) (sV (oLoadN 3 (xL 0)) (sC (cVal (xT 1)) [(xL 0)] k)))) (xL 0) (kSeq (kReg (sS 2 (xT 6) sEnd))
 kRet)
 kSkip)))
 (kReg (sV (oBin .add .no (xT 4) (ki 1)) (sS 4 (xL 0) sEnd)))))))))
 (kSeq (kReg (sS 2 (xK (int .i64 (.negSucc 0))) sEnd))
 kRet)))
theorem t116 : FF d116 Tryz.f116 a116 [(.t 2)] := ff Tryz.func116 (by kernel_rfl)
def x116 : XFn := .go a116 2 pd5 [(.t 2)]
def d117 : FD := ⟨117, 1, [2, 3]⟩
def a117 : CodeF := (kSeq (kReg (sS 1 (xK nils) sEnd))
 (kSeq (kReg (sC (cFn 184) [(xT 0)] (sS 2 (xL 0) sEnd)))
 (kSeq (kReg (sC (cFn 181) [(xT 2)] sEnd))
 (kSeq (kReg (sS 1 (xT 2) sEnd))
 kRet))))
theorem t117 : FF d117 Tryz.f117 a117 [(.t 1)] := ff Tryz.func117 (by kernel_rfl)
def x117 : XFn := .mrg a117 1 pd2 [(.t 1)]
def d118 : FD := ⟨118, 1, [2, 1]⟩
def a118 : CodeF := (kSeq (kReg (sH (oBox 135 1 (xT 0)) (sS 2 (xL 0) (sS 1 (xK nilfunc) sEnd))))
 (kSeq (kReg (sV (oMkfn 185 [] [(xT 2)]) (sS 1 (xL 0) sEnd)))
 kRet))
theorem t118 : FF d118 Tryz.f118 a118 [(.t 1)] := ff Tryz.func118 (by kernel_rfl)
def x118 : XFn := .go a118 1 pd2 [(.t 1)]
end
end Go.Proofs.YthaaihgllpehbaaGreatDoor
