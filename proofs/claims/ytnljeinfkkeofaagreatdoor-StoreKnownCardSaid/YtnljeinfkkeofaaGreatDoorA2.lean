import Derived.Test.YtnljeinfkkeofaaGreatDoorP
import Derived.Test.YtnljeinfkkeofaaGreatDoorProg
import Derived.KernelRfl
/- The functions of the program as the interpreter has them; each is the program's, by the kernel. -/
set_option maxRecDepth 1000000
namespace Go.Proofs.YtnljeinfkkeofaaGreatDoor
open Go Go.Ai AVal
noncomputable section
def d115 : FD := ⟨115, 1, [2]⟩
def a115 : CodeF := (kSeq (kReg (sS 1 (ki 0) sEnd))
 (kSeq (kRegC (fun k => (sV (oBin .eql .ptr (xT 0) (xK nilptr)) k)) (xL 0) (kSeq (kReg (sS 1 (ki 20) sEnd))
 kRet)
 kSkip)
 (kSeq (kReg (sV (oNilc (xT 0)) (sV (oFaddr 2 (xL 0)) (sV (oLoad (xL 0)) (sS 1 (xL 0) sEnd)))))
 kRet)))
theorem t115 : FF d115 Tryz.f115 a115 [(.t 1)] := ff Tryz.func115 (by kernel_rfl)
def x115 : XFn := .go a115 1 pd1 [(.t 1)]
def d116 : FD := ⟨116, 1, [2]⟩
def a116 : CodeF := (kSeq (kReg (sS 1 (xK nils) sEnd))
 (kSeq (kRegC (fun k => (sV (oBin .eql .slice (xT 0) (xK nils)) k)) (xL 0) (kSeq (kReg (sS 1 (xK nils) sEnd))
 kRet)
 kSkip)
 (kSeq (kReg (sH (oBsl 5 1 0 [(int .u8 (.ofNat 0))] []) (sH (oApp 5 1 (xL 0) (xT 0)) (sS 1 (xL 0) sEnd))))
 kRet)))
theorem t116 : FF d116 Tryz.f116 a116 [(.t 1)] := ff Tryz.func116 (by kernel_rfl)
def x116 : XFn := .go a116 1 pd1 [(.t 1)]
def d117 : FD := ⟨117, 2, [4]⟩
def a117 : CodeF := (kSeq (kReg (sS 2 (xK nilptr) sEnd))
 (kSeq (kRegC (fun k => (sV (oBin .neq .no (xT 1) (ki 0)) k)) (xL 0) (kReg (sV (oBuild [(int .i64 (.ofNat 0))] [(0, 1, (xT 1))]) (sV (oMkif 155 (xL 0)) (sPan (xL 0)))))
 kSkip)
 (kSeq (kReg (sS 2 (xT 0) sEnd))
 kRet)))
theorem t117 : FF d117 Tryz.f117 a117 [(.t 2)] := ff Tryz.func117 (by kernel_rfl)
def x117 : XFn := .go a117 2 pd1 [(.t 2)]
def d118 : FD := ⟨118, 1, [2, 3, 4, 5, 34, 35, 36, 6, 8, 7, 9, 92, 93, 94, 10, 11, 116, 117, 118, 129, 130, 131, 128, 14, 135, 136, 137, 12, 16]⟩
def a118 : CodeF := (kSeq (kReg (sH (oAlloc 115 1 [nilptr]) (sS 1 (xL 0) (sH (oAlloc 25 1 [(int .i64 (.ofNat 0))]) (sS 2 (xL 0) sEnd)))))
 (kSeq (kReg (sV (oMkfn 212 [] [(xT 1), (xT 2)]) (sDef (xL 0) [] sEnd)))
 (kSeq (kReg (sC (cFn 109) [(xT 0)] (sS 3 (xL 0) sEnd)))
 (kSeq (kReg (sC (cFn 110) [(xT 3), (ki 16384)] (sV (oBuild [nils, (int .i64 (.ofNat 0))] [(1, 1, (xL 0))]) (sH (oBox 305 2 (xL 0)) (sH (oStore 1 (xT 1) (xL 0)) sEnd)))))
 (kSeq (kReg (sV (oLoad (xT 1)) (sV (oNilc (xL 0)) (sV (oFaddr 1 (xL 0)) (sV (oLoad (xL 0)) (sC (cFn 110) [(xT 3), (xL 0)] (sS 4 (xL 0) sEnd)))))))
 (kSeq (kReg (sC (cFn 213) [(xT 3), (xK (bool true))] sEnd))
 (kSeq (kDraw [(.v (oMov (xT 4)), none), (.h (oMksl 3 1 [(int .i64 (.ofNat 0))] (xL 0) (xL 0)), none), (.v (oMov (ki 0)), none), (.v (oMov (xL 1)), none)] 0 [none, none, none, none, none, none, none, none, (some 1), none, (some 0), none, none, none, none, none, none, none, none, none, none, none, none, none, none, none, none, none, none, none] [])
 (kSeq (kSeq (kReg (sS 5 (xT 4) (sS 6 (ki 0) sEnd)))
 (kBlock 0 (kLoop (kSeq (kReg (sV (oBin .lss .no (xT 6) (xT 5)) (sS 7 (xL 0) sEnd)))
 (kSeq (kCond (xT 7) kSkip
 (kExit 0))
 (kSeq (kBlock 1 (kSeq (kReg (sS 9 (xT 6) sEnd))
 (kSeq (kReg (sC (cFn 110) [(xT 3), (ki 16384)] (sV (oBin .add .no (xT 8) (xL 0)) (sV (oBuild [(int .i64 (.ofNat 0)), (int .i64 (.ofNat 0)), nils] [(0, 1, (xT 8)), (1, 1, (xL 0))]) (sH (oAlloc 308 3 [(int .i64 (.ofNat 0)), (int .i64 (.ofNat 0)), nils]) (sS 11 (xL 0) (sH (oStore 3 (xT 11) (xL 1)) sEnd)))))))
 (kSeq (kReg (sV (oLenL (xT 0)) (sC (cFn 110) [(xT 3), (xL 0)] (sV (oIaddr 1 (xT 10) (xT 9)) (sH (oStore 1 (xL 0) (xL 1)) sEnd)))))
 (kSeq (kDraw [(.v (oMov (xT 3)), none), (.v (oFaddr 1 (xT 11)), none), (.v (oLoad (xL 0)), none), (.v (oFaddr 0 (xT 11)), none), (.v (oLoad (xL 0)), none), (.v (oBin .gtr .no (xL 2) (xL 0)), none), (.v (oMov (xL 0)), none), (.v (oFaddr 1 (xT 11)), (some ((xL 0), true))), (.v (oLoad (xL 0)), (some ((xL 1), true))), (.v (oLoad (xT 1)), (some ((xL 2), true))), (.v (oNilc (xL 0)), (some ((xL 3), true))), (.v (oFaddr 1 (xL 0)), (some ((xL 4), true))), (.v (oLoad (xL 0)), (some ((xL 5), true))), (.v (oBin .leq .no (xL 4) (xL 0)), (some ((xL 6), true))), (.v (oPick (xL 7) (xL 0) (xK (bool false))), none), (.c (cFn 213) [(xL 14), (xL 0)], none)] 0 [none, none, none, none, none, none, none, none, none, none, none, none, none, none, none, none, none, none, none, none, none, none, none, none, none, none, none, none, none, none] [])
 (kSeq (kDraw [(.v (oLoad (xT 1)), none), (.v (oLoad (xT 1)), none), (.v (oNilc (xL 0)), none), (.v (oFaddr 0 (xL 0)), none), (.v (oLoad (xL 0)), none), (.v (oLoadN 3 (xT 11)), none), (.h (oBsl 308 3 1 [(int .i64 (.ofNat 0)), (int .i64 (.ofNat 0)), nils] [(0, 3, (xL 0))]), none), (.h (oApp 308 3 (xL 2) (xL 0)), none), (.v (oNilc (xL 7)), none), (.v (oFaddr 0 (xL 0)), none), (.h (oStore 1 (xL 0) (xL 2)), none)] 0 [none, none, none, none, none, none, none, none, none, none, none, none, none, none, none, none, none, none, none, none, none, none, none, none, none, none, none, none, none, none] [(10, 4), (10, 3), (9, 4), (6, 4)])
 (kReg (sV (oFaddr 1 (xT 11)) (sV (oLoad (xL 0)) (sS 8 (xL 0) sEnd))))))))))
 (kReg (sV (oBin .add .no (xT 6) (ki 1)) (sS 6 (xL 0) sEnd)))))))))
 (kSeq (kReg (sV (oLoad (xT 1)) (sV (oNilc (xL 0)) (sV (oFaddr 1 (xL 0)) (sV (oLoad (xL 0)) (sV (oBin .eql .no (xT 8) (xL 0)) (sC (cFn 213) [(xT 3), (xL 0)] sEnd)))))))
 (kSeq (kSeq (kReg (sV (oLoad (xT 1)) (sV (oNilc (xL 0)) (sV (oFaddr 0 (xL 0)) (sV (oLoad (xL 0)) (sV (oLenL (xL 0)) (sS 12 (xL 0) (sS 13 (ki 0) sEnd))))))))
 (kBlock 2 (kLoop (kSeq (kReg (sV (oBin .lss .no (xT 13) (xT 12)) (sS 14 (xL 0) sEnd)))
 (kSeq (kCond (xT 14) kSkip
 (kExit 2))
 (kSeq (kBlock 3 (kSeq (kReg (sS 15 (xT 13) sEnd))
 (kSeq (kReg (sV (oLoad (xT 1)) (sV (oNilc (xL 0)) (sV (oFaddr 0 (xL 0)) (sV (oLoad (xL 0)) (sV (oIaddr 3 (xL 0) (xT 15)) (sS 16 (xL 0) sEnd)))))))
 (kSeq (kReg (sV (oIaddr 1 (xT 10) (xT 15)) (sV (oLoad (xL 0)) (sC (cFn 112) [(xT 3), (xL 0)] (sV (oNilc (xT 16)) (sV (oFaddr 2 (xL 0)) (sH (oStore 1 (xL 0) (xL 2)) sEnd)))))))
 (kSeq (kReg (sC (cFn 213) [(xT 3), (xK (bool true))] sEnd))
 (kSeq (kReg (sV (oNilc (xT 16)) (sV (oLoadN 3 (xL 0)) (sC (cFn 214) [(xL 0)] (sS 17 (xL 0) sEnd)))))
 (kBlock 4 (kRf 8797091255102 [18, 19] (xT 17)))))))))
 (kReg (sV (oBin .add .no (xT 13) (ki 1)) (sS 13 (xL 0) sEnd)))))))))
 (kSeq (kReg (sC (cFn 113) [(xT 3)] (sV (oBin .eql .no (xL 0) (ki 0)) (sC (cFn 213) [(xT 3), (xL 0)] sEnd))))
 (kSeq (kReg (sH (oAlloc 209 1 [nils]) (sS 28 (xL 0) sEnd)))
 (kSeq (kSeq (kReg (sV (oLoad (xT 1)) (sV (oNilc (xL 0)) (sV (oFaddr 0 (xL 0)) (sV (oLoad (xL 0)) (sS 23 (xL 0) (sV (oLenL (xT 23)) (sS 20 (xL 0) (sS 21 (ki 0) sEnd)))))))))
 (kBlock 6 (kLoop (kSeq (kReg (sV (oBin .lss .no (xT 21) (xT 20)) (sS 22 (xL 0) sEnd)))
 (kSeq (kCond (xT 22) kSkip
 (kExit 6))
 (kSeq (kBlock 7 (kSeq (kReg (sV (oIaddr 3 (xT 23) (xT 21)) (sV (oLoadN 3 (xL 0)) (sH (oAlloc 308 3 [(int .i64 (.ofNat 0)), (int .i64 (.ofNat 0)), nils]) (sS 24 (xL 0) (sH (oStore 3 (xT 24) (xL 1)) sEnd))))))
 (kSeq (kReg (sV (oLoadN 3 (xT 24)) (sC (cFn 214) [(xL 0)] (sS 25 (xL 0) sEnd))))
 (kBlock 8 (kRf 8797091265126 [26, 27] (xT 25))))))
 (kReg (sV (oBin .add .no (xT 21) (ki 1)) (sS 21 (xL 0) sEnd)))))))))
 (kSeq (kReg (sV (oLoad (xT 28)) (sC (cFn 122) [(xL 0)] (sC (cFn 215) [(xL 0), (xT 0)] (sC (cFn 213) [(xT 3), (xL 0)] sEnd)))))
 (kSeq (kReg (sV (oLoad (xT 1)) (sH (oStore 1 (xT 1) (xL 0)) (sH (oStore 1 (xT 2) (ki 0)) sEnd))))
 kRet)))))))))))))))
theorem t118 : FF d118 Tryz.f118 a118 [(.cell 1 none), (.cell 2 none)] := ff Tryz.func118 (by kernel_rfl)
def x118 : XFn := .go a118 1 pd29 [(.cell 1 none), (.cell 2 none)]
def r118x0 : CodeF × CodeF := (kSkip,
 (kBlock 5 kSkip))
theorem u118x0 : RfFact Tryz.prog d118 Tryz.f118 8797091255102 r118x0 := ⟨Tryz.func118, by kernel_rfl⟩
def r118x1 : CodeF × CodeF := ((kReg (sS 29 (xT 27) sEnd)),
 (kBlock 9 (kReg (sV (oLoad (xT 28)) (sH (oBsl 82 1 1 [nils] [(0, 1, (xT 29))]) (sH (oApp 82 1 (xL 1) (xL 0)) (sH (oStore 1 (xT 28) (xL 0)) sEnd)))))))
theorem u118x1 : RfFact Tryz.prog d118 Tryz.f118 8797091265126 r118x1 := ⟨Tryz.func118, by kernel_rfl⟩
def d119 : FD := ⟨119, 1, [2]⟩
def a119 : CodeF := (kSeq (kReg (sS 1 (ki 0) sEnd))
 (kSeq (kRegC (fun k => (sV (oBin .eql .ptr (xT 0) (xK nilptr)) k)) (xL 0) (kSeq (kReg (sS 1 (ki 0) sEnd))
 kRet)
 kSkip)
 (kSeq (kReg (sV (oNilc (xT 0)) (sV (oFaddr 1 (xL 0)) (sV (oLoad (xL 0)) (sS 1 (xL 0) sEnd)))))
 kRet)))
theorem t119 : FF d119 Tryz.f119 a119 [(.t 1)] := ff Tryz.func119 (by kernel_rfl)
def x119 : XFn := .go a119 1 pd1 [(.t 1)]
def d120 : FD := ⟨120, 3, [6, 3, 33, 34, 35, 9, 7, 10, 8, 69, 13, 11, 100]⟩
def a120 : CodeF := (kSeq (kReg (sH (oBox 48 7 (xT 0)) (sS 4 (xL 0) (sH (oAlloc 207 6 [nilptr, nils, nils, nilptr, nilptr, nilptr]) (sS 3 (xL 0) sEnd)))))
 (kSeq (kRegC (fun k => (sV (oFaddr 1 (xT 4)) (sV (oLoad (xL 0)) (sV (oBin .eql .no (xL 0) (ki 1)) (sG (xL 0) false (sV (oFaddr 1 (xT 4))) (sG (xL 1) false (sV (oLoad (xL 0))) (sG (xL 2) false (sV (oBin .eql .no (xL 0) (ki 2))) (sV (oPick (xL 3) (xK (bool true)) (xL 0)) k)))))))) (xL 0) (kSeq (kReg (sC (cVal (xT 2)) [] (sC (cFn 217) [(xL 0)] (sV (oExt 0 (xL 0)) (sV (oExt 1 (xL 1)) (sC (cFn 216) [(xL 1), (xL 0)] (sV (oFaddr 0 (xT 3)) (sH (oStore 1 (xL 0) (xL 1)) sEnd))))))))
 (kSeq (kReg (sC (cVal (xT 2)) [] (sS 9 (xL 0) sEnd)))
 (kSeq (kReg (sS 11 (xK (int .u64 (.ofNat 0))) sEnd))
 (kSeq (kReg (sV (oFaddr 0 (xT 3)) (sV (oLoad (xL 0)) (sC (cFn 218) [(xL 0)] (sS 5 (xL 0) (sS 6 (ki 0) sEnd))))))
 (kBlock 0 (kLoop (kSeq (kReg (sV (oBin .lss .no (xT 6) (xT 5)) (sS 7 (xL 0) sEnd)))
 (kSeq (kCond (xT 7) kSkip
 (kExit 0))
 (kSeq (kBlock 1 (kSeq (kReg (sS 8 (xT 6) sEnd))
 (kSeq (kReg (sV (oFaddr 0 (xT 3)) (sV (oLoad (xL 0)) (sC (cFn 219) [(xL 0), (xT 8)] (sS 10 (xL 0) sEnd)))))
 (kSeq (kRegC (fun k => (sV (oBin .lss .no (xT 10) (xT 11)) (sG (xL 0) false (sV (oMov (xT 10))) (sG (xL 1) false (sV (oMov (xT 9))) (sG (xL 2) false (sV (oLenL (xL 0))) (sG (xL 3) false (sV (oConv .u64 (xL 0))) (sG (xL 4) false (sV (oBin .gtr .no (xL 3) (xL 0))) (sV (oPick (xL 5) (xK (bool true)) (xL 0)) k)))))))) (xL 0) (kReg (sV (oBuild [(int .i64 (.ofNat 0))] [(0, 1, (ki 20))]) (sV (oMkif 155 (xL 0)) (sPan (xL 0)))))
 kSkip)
 (kSeq (kDraw [(.v (oFaddr 1 (xT 3)), none), (.v (oLoad (xL 0)), none), (.v (oMov (xT 9)), none), (.v (oMov (xT 11)), none), (.v (oMov (xT 10)), none), (.v (oSlc 1 (xL 2) (some (xL 1)) (some (xL 0)) none), none), (.c (cFn 221) [(xL 0)], none), (.v (oExt 0 (xL 0)), none), (.v (oExt 1 (xL 1)), none), (.c (cFn 220) [(xL 1), (xL 0)], none), (.h (oBsl 317 1 1 [nilptr] [(0, 1, (xL 0))]), none), (.h (oApp 317 1 (xL 9) (xL 0)), none), (.v (oFaddr 1 (xT 3)), none), (.h (oStore 1 (xL 0) (xL 1)), none)] 0 [none, none, none, none, none, none, none, none, none, none, none, none, none, none, none, none] [(12, 7), (12, 4), (12, 3)])
 (kReg (sS 11 (xT 10) sEnd)))))))
 (kReg (sV (oBin .add .no (xT 6) (ki 1)) (sS 6 (xL 0) sEnd))))))))))))
 kSkip)
 (kSeq (kSeq (kReg (sV (oFaddr 1 (xT 4)) (sV (oLoad (xL 0)) (sS 12 (xL 0) sEnd))))
 (kBlock 2 (kRegC (fun k => (sV (oBin .eql .no (xT 12) (ki 1)) k)) (xL 0) (kSeq (kReg (sC (cVal (xT 2)) [] (sC (cFn 111) [(xL 0), (xT 1)] (sV (oExt 0 (xL 0)) (sV (oExt 1 (xL 1)) (sV (oExt 2 (xL 2)) (sS 14 (xL 2) (sS 13 (xL 0) sEnd))))))))
 (kReg (sC (cFn 114) [(xT 14), (xT 13)] (sV (oFaddr 2 (xT 3)) (sH (oStore 1 (xL 0) (xL 1)) sEnd)))))
 (kRegC (fun k => (sV (oBin .eql .no (xT 12) (ki 2)) k)) (xL 0) (kReg (sC (cVal (xT 2)) [] (sC (cFn 223) [(xL 0)] (sV (oExt 0 (xL 0)) (sV (oExt 1 (xL 1)) (sC (cFn 222) [(xL 1), (xL 0)] (sV (oFaddr 3 (xT 3)) (sH (oStore 1 (xL 0) (xL 1)) sEnd))))))))
 (kSeq (kRegC (fun k => (sV (oBin .eql .no (xT 12) (ki 3)) (sS 15 (xL 0) k))) (xT 15) kSkip
 (kReg (sV (oBin .eql .no (xT 12) (ki 4)) (sS 15 (xL 0) sEnd))))
 (kCond (xT 15) (kSeq (kReg (sC (cVal (xT 2)) [] (sC (cFn 225) [(xL 0)] (sV (oExt 0 (xL 0)) (sV (oExt 1 (xL 1)) (sC (cFn 224) [(xL 1), (xL 0)] (sV (oFaddr 4 (xT 3)) (sH (oStore 1 (xL 0) (xL 1)) sEnd))))))))
 (kReg (sC (cVal (xT 2)) [] (sC (cFn 227) [(xL 0)] (sV (oExt 0 (xL 0)) (sV (oExt 1 (xL 1)) (sC (cFn 226) [(xL 1), (xL 0)] (sV (oFaddr 5 (xT 3)) (sH (oStore 1 (xL 0) (xL 1)) sEnd)))))))))
 (kReg (sC (cVal (xT 2)) [] (sC (cFn 227) [(xL 0)] (sV (oExt 0 (xL 0)) (sV (oExt 1 (xL 1)) (sC (cFn 226) [(xL 1), (xL 0)] (sV (oFaddr 5 (xT 3)) (sH (oStore 1 (xL 0) (xL 1)) sEnd))))))))))))))
 (kSeq (kReg (sV (oLoadN 6 (xT 3)) (sH (oStore 6 (xT 3) (xL 0)) sEnd)))
 kRet))))
theorem t120 : FF d120 Tryz.f120 a120 [(.cell 3 (some 6))] := ff Tryz.func120 (by kernel_rfl)
def x120 : XFn := .go a120 3 pd13 [(.cell 3 (some 6))]
def d121 : FD := ⟨121, 1, [2, 11, 12, 4, 19, 20, 21, 18, 5, 8, 7, 6, 3, 9]⟩
def a121 : CodeF := (kSeq (kReg (sS 1 (xK nils) sEnd))
 (kSeq (kReg (sH (oAlloc 51 1 [nils]) (sS 13 (xL 0) sEnd)))
 (kSeq (kSeq (kReg (sC (cFn 228) [(xT 0), (ki 128)] (sS 2 (xL 0) sEnd)))
 (kBlock 0 (kRf 33558330 [3] (xT 2))))
 (kSeq (kReg (sV (oLoad (xT 13)) (sC (cFn 132) [(xL 0)] (sS 1 (xL 0) sEnd))))
 kRet))))
theorem t121 : FF d121 Tryz.f121 a121 [(.t 1)] := ff Tryz.func121 (by kernel_rfl)
def x121 : XFn := .go a121 1 pd14 [(.t 1)]
def r121x0 : CodeF × CodeF := ((kReg (sS 4 (xT 3) sEnd)),
 (kBlock 1 (kSeq (kReg (sC (cFn 229) [(xT 4)] (sS 9 (xL 0) sEnd)))
 (kSeq (kReg (sV (oLenL (xT 4)) (sH (oMksl 33 1 [(int .u64 (.ofNat 0))] (xL 0) (xL 0)) (sS 12 (xL 0) sEnd))))
 (kSeq (kSeq (kReg (sS 8 (xT 4) (sV (oLenL (xT 8)) (sS 5 (xL 0) (sS 6 (ki 0) sEnd)))))
 (kBlock 2 (kLoop (kSeq (kReg (sV (oBin .lss .no (xT 6) (xT 5)) (sS 7 (xL 0) sEnd)))
 (kSeq (kCond (xT 7) kSkip
 (kExit 2))
 (kSeq (kBlock 3 (kSeq (kReg (sV (oIaddr 1 (xT 8) (xT 6)) (sV (oLoad (xL 0)) (sS 11 (xT 6) (sS 10 (xL 0) sEnd)))))
 (kReg (sV (oConv .u64 (xT 10)) (sV (oConv .u64 (xT 9)) (sV (oBin .sub .no (xL 1) (xL 0)) (sV (oIaddr 1 (xT 12) (xT 11)) (sH (oStore 1 (xL 0) (xL 1)) sEnd))))))))
 (kReg (sV (oBin .add .no (xT 6) (ki 1)) (sS 6 (xL 0) sEnd)))))))))
 (kSeq (kReg (sC (cFn 208) [(xT 12)] (sS 14 (xL 0) sEnd)))
 (kSeq (kReg (sV (oLoad (xT 13)) (sC (cFn 230) [(xL 0), (xT 9)] (sH (oStore 1 (xT 13) (xL 0)) sEnd))))
 (kReg (sV (oLoad (xT 13)) (sV (oConv .u8 (xT 14)) (sH (oBsl 5 1 1 [(int .u8 (.ofNat 0))] [(0, 1, (xL 0))]) (sH (oApp 5 1 (xL 2) (xL 0)) (sC (cFn 231) [(xT 12), (xT 14)] (sH (oApp 5 1 (xL 1) (xL 0)) (sH (oStore 1 (xT 13) (xL 0)) sEnd)))))))))))))))
theorem u121x0 : RfFact Tryz.prog d121 Tryz.f121 33558330 r121x0 := ⟨Tryz.func121, by kernel_rfl⟩
def d122 : FD := ⟨122, 1, [2, 4, 3, 26, 27, 28, 25, 7, 5, 47, 48, 49, 46, 9]⟩
def a122 : CodeF := (kSeq (kReg (sS 1 (xK nils) sEnd))
 (kSeq (kReg (sC (cFn 232) [(xT 0)] (sV (oExt 0 (xL 0)) (sV (oExt 1 (xL 1)) (sS 3 (xL 1) (sS 2 (xL 0) sEnd))))))
 (kSeq (kRegC (fun k => (sV (oUn .not (xT 2)) k)) (xL 0) (kSeq (kReg (sS 1 (xK nils) sEnd))
 kRet)
 kSkip)
 (kSeq (kReg (sV (oLenL (xT 0)) (sV (oConv .u64 (xL 0)) (sC (cFn 80) [(xK nils), (xL 0)] (sV (oLenL (xT 3)) (sV (oConv .u64 (xL 0)) (sC (cFn 80) [(xL 2), (xL 0)] (sS 9 (xL 0) sEnd))))))))
 (kSeq (kSeq (kReg (sS 7 (xT 3) (sV (oLenL (xT 7)) (sS 4 (xL 0) (sS 5 (ki 0) sEnd)))))
 (kBlock 0 (kLoop (kSeq (kReg (sV (oBin .lss .no (xT 5) (xT 4)) (sS 6 (xL 0) sEnd)))
 (kSeq (kCond (xT 6) kSkip
 (kExit 0))
 (kSeq (kBlock 1 (kSeq (kReg (sV (oIaddr 3 (xT 7) (xT 5)) (sV (oLoadN 3 (xL 0)) (sH (oAlloc 308 3 [(int .i64 (.ofNat 0)), (int .i64 (.ofNat 0)), nils]) (sS 8 (xL 0) (sH (oStore 3 (xT 8) (xL 1)) sEnd))))))
 (kDraw [(.v (oMov (xT 9)), none), (.v (oFaddr 1 (xT 8)), none), (.v (oLoad (xL 0)), none), (.v (oFaddr 0 (xT 8)), none), (.v (oLoad (xL 0)), none), (.v (oBin .sub .no (xL 2) (xL 0)), none), (.v (oConv .u64 (xL 0)), none), (.c (cFn 80) [(xK nils), (xL 0)], none), (.v (oFaddr 2 (xT 8)), none), (.v (oLoad (xL 0)), none), (.v (oLenL (xL 0)), none), (.v (oConv .u64 (xL 0)), none), (.c (cFn 80) [(xL 4), (xL 0)], none), (.h (oApp 5 1 (xL 12) (xL 0)), none), (.v (oMov (xL 0)), none)] 0 [none, none, none, none, none, none, none, none, none, (some 0), none, none, none, none, none] [(5, 7)])))
 (kReg (sV (oBin .add .no (xT 5) (ki 1)) (sS 5 (xL 0) sEnd)))))))))
 (kSeq (kSeq (kReg (sS 13 (xT 3) (sV (oLenL (xT 13)) (sS 10 (xL 0) (sS 11 (ki 0) sEnd)))))
 (kBlock 2 (kLoop (kSeq (kReg (sV (oBin .lss .no (xT 11) (xT 10)) (sS 12 (xL 0) sEnd)))
 (kSeq (kCond (xT 12) kSkip
 (kExit 2))
 (kSeq (kBlock 3 (kSeq (kReg (sV (oIaddr 3 (xT 13) (xT 11)) (sV (oLoadN 3 (xL 0)) (sH (oAlloc 308 3 [(int .i64 (.ofNat 0)), (int .i64 (.ofNat 0)), nils]) (sS 14 (xL 0) (sH (oStore 3 (xT 14) (xL 1)) sEnd))))))
 (kReg (sV (oMov (xT 9)) (sV (oFaddr 2 (xT 14)) (sV (oLoad (xL 0)) (sH (oApp 5 1 (xL 2) (xL 0)) (sS 9 (xL 0) sEnd))))))))
 (kReg (sV (oBin .add .no (xT 11) (ki 1)) (sS 11 (xL 0) sEnd)))))))))
 (kSeq (kReg (sS 1 (xT 9) sEnd))
 kRet)))))))
theorem t122 : FF d122 Tryz.f122 a122 [(.t 1)] := ff Tryz.func122 (by kernel_rfl)
def x122 : XFn := .go a122 1 pd14 [(.t 1)]
def d123 : FD := ⟨123, 2, [4, 2, 6, 3, 25]⟩
def a123 : CodeF := (kSeq (kReg (sH (oBox 48 7 (xT 0)) (sS 3 (xL 0) (sH (oBox 169 6 (xT 1)) (sS 5 (xL 0) (sS 2 (xK nils) sEnd))))))
 (kSeq (kSeq (kReg (sV (oFaddr 1 (xT 3)) (sV (oLoad (xL 0)) (sS 4 (xL 0) sEnd))))
 (kBlock 0 (kRegC (fun k => (sV (oBin .eql .no (xT 4) (ki 1)) k)) (xL 0) (kSeq (kDraw [(.v (oLoadN 6 (xT 5)), none), (.c (cFn 233) [(xL 0)], none), (.v (oFaddr 2 (xT 5)), none), (.v (oLoad (xL 0)), none), (.c (cFn 121) [(xL 0)], none), (.h (oBsl 51 1 1 [nils] [(0, 1, (xL 0))]), none), (.h (oApp 51 1 (xL 4) (xL 0)), none), (.v (oMov (xL 0)), none)] 0 [none, none, (some 0), none, none, none, none] [(4, 6)])
 kRet)
 (kRegC (fun k => (sV (oBin .eql .no (xT 4) (ki 2)) k)) (xL 0) (kSeq (kDraw [(.v (oLoadN 6 (xT 5)), none), (.c (cFn 233) [(xL 0)], none), (.v (oFaddr 3 (xT 5)), none), (.v (oLoad (xL 0)), none), (.c (cFn 234) [(xL 0)], none), (.h (oBsl 51 1 1 [nils] [(0, 1, (xL 0))]), none), (.h (oApp 51 1 (xL 4) (xL 0)), none), (.v (oMov (xL 0)), none)] 0 [none, none, (some 0), none, none, none, none] [(4, 6)])
 kRet)
 (kSeq (kRegC (fun k => (sV (oBin .eql .no (xT 4) (ki 3)) (sS 6 (xL 0) k))) (xT 6) kSkip
 (kReg (sV (oBin .eql .no (xT 4) (ki 4)) (sS 6 (xL 0) sEnd))))
 (kCond (xT 6) (kSeq (kDraw [(.v (oFaddr 4 (xT 5)), none), (.v (oLoad (xL 0)), none), (.c (cFn 235) [(xL 0)], none), (.v (oFaddr 5 (xT 5)), none), (.v (oLoad (xL 0)), none), (.c (cFn 236) [(ki 1), (xL 0)], none), (.h (oBsl 51 1 2 [nils] [(0, 1, (xL 3)), (1, 1, (xL 0))]), none), (.v (oMov (xL 0)), none)] 0 [none, none, (some 0), none, none, none, none] [(3, 5)])
 kRet)
 kSkip))))))
 (kSeq (kDraw [(.v (oLoadN 7 (xT 3)), none), (.c (cFn 237) [(xL 0)], none), (.v (oFaddr 5 (xT 5)), none), (.v (oLoad (xL 0)), none), (.c (cFn 236) [(xL 2), (xL 0)], none), (.h (oBsl 51 1 1 [nils] [(0, 1, (xL 0))]), none), (.v (oMov (xL 0)), none)] 0 [none, none, (some 0), none, none, none, none] [(3, 5)])
 kRet)))
theorem t123 : FF d123 Tryz.f123 a123 [(.t 2)] := ff Tryz.func123 (by kernel_rfl)
def x123 : XFn := .go a123 2 pd5 [(.t 2)]
def d124 : FD := ⟨124, 2, [4]⟩
def a124 : CodeF := (kSeq (kReg (sS 2 (xK nils) sEnd))
 (kSeq (kRegC (fun k => (sV (oBin .neq .no (xT 1) (ki 0)) k)) (xL 0) (kReg (sV (oBuild [(int .i64 (.ofNat 0))] [(0, 1, (xT 1))]) (sV (oMkif 155 (xL 0)) (sPan (xL 0)))))
 kSkip)
 (kSeq (kReg (sS 2 (xT 0) sEnd))
 kRet)))
theorem t124 : FF d124 Tryz.f124 a124 [(.t 2)] := ff Tryz.func124 (by kernel_rfl)
def x124 : XFn := .go a124 2 pd1 [(.t 2)]
def d125 : FD := ⟨125, 1, [2]⟩
def a125 : CodeF := (kSeq (kReg (sS 1 (xK nils) sEnd))
 (kSeq (kReg (sV (oLenL (xT 0)) (sV (oLenL (xT 0)) (sV (oSlc 7 (xT 0) none (some (xL 1)) (some (xL 0))) (sS 1 (xL 0) sEnd)))))
 kRet))
theorem t125 : FF d125 Tryz.f125 a125 [(.t 1)] := ff Tryz.func125 (by kernel_rfl)
def x125 : XFn := .go a125 1 pd1 [(.t 1)]
def d126 : FD := ⟨126, 1, [2]⟩
def a126 : CodeF := (kSeq (kReg (sS 1 (xK nils) sEnd))
 (kSeq (kRegC (fun k => (sV (oBin .eql .slice (xT 0) (xK nils)) k)) (xL 0) (kSeq (kReg (sS 1 (xK nils) sEnd))
 kRet)
 kSkip)
 (kSeq (kReg (sH (oBsl 48 7 0 [(str []), (int .i64 (.ofNat 0)), nils, (int .i64 (.ofNat 0)), (int .i64 (.ofNat 0)), (bool false), (bool false)] []) (sH (oApp 48 7 (xL 0) (xT 0)) (sS 1 (xL 0) sEnd))))
 kRet)))
theorem t126 : FF d126 Tryz.f126 a126 [(.t 1)] := ff Tryz.func126 (by kernel_rfl)
def x126 : XFn := .go a126 1 pd1 [(.t 1)]
def d127 : FD := ⟨127, 1, [2]⟩
def a127 : CodeF := (kSeq (kReg (sS 1 (xK nils) sEnd))
 (kSeq (kReg (sV (oLenL (xT 0)) (sV (oLenL (xT 0)) (sV (oSlc 1 (xT 0) none (some (xL 1)) (some (xL 0))) (sS 1 (xL 0) sEnd)))))
 kRet))
theorem t127 : FF d127 Tryz.f127 a127 [(.t 1)] := ff Tryz.func127 (by kernel_rfl)
def x127 : XFn := .go a127 1 pd1 [(.t 1)]
def d128 : FD := ⟨128, 1, [2]⟩
def a128 : CodeF := (kSeq (kReg (sS 1 (xK nils) sEnd))
 (kSeq (kRegC (fun k => (sV (oBin .eql .slice (xT 0) (xK nils)) k)) (xL 0) (kSeq (kReg (sS 1 (xK nils) sEnd))
 kRet)
 kSkip)
 (kSeq (kReg (sH (oBsl 3 1 0 [(int .i64 (.ofNat 0))] []) (sH (oApp 3 1 (xL 0) (xT 0)) (sS 1 (xL 0) sEnd))))
 kRet)))
theorem t128 : FF d128 Tryz.f128 a128 [(.t 1)] := ff Tryz.func128 (by kernel_rfl)
def x128 : XFn := .go a128 1 pd1 [(.t 1)]
def d129 : FD := ⟨129, 2, [4]⟩
def a129 : CodeF := (kSeq (kReg (sS 2 (ki 0) sEnd))
 (kSeq (kReg (sC (cFn 238) [(xT 0), (xT 1)] (sS 2 (xL 0) sEnd)))
 kRet))
theorem t129 : FF d129 Tryz.f129 a129 [(.t 2)] := ff Tryz.func129 (by kernel_rfl)
def x129 : XFn := .go a129 2 pd1 [(.t 2)]
def d130 : FD := ⟨130, 1, [2, 3, 4, 48, 49, 50, 47, 8, 6, 5, 10, 9]⟩
def a130 : CodeF := (kSeq (kReg (sS 1 (ki 0) (sS 2 (xK nilif) sEnd)))
 (kSeq (kReg (sV (oLenS (xT 0)) (sS 3 (xL 0) sEnd)))
 (kSeq (kRegC (fun k => (sG (xK (bool false)) true (sV (oMov (xT 3))) (sG (xK (bool false)) true (sV (oBin .lss .no (ki 0) (xL 0))) (sG (xK (bool false)) true (sV (oMov (xL 0))) (sG (xL 0) true (sV (oMov (xT 3))) (sG (xL 1) true (sV (oBin .lss .no (xL 0) (ki 10))) (sG (xK (bool false)) true (sV (oPick (xL 2) (xL 0) (xK (bool false)))) (sV (oPick (xK (bool false)) (xL 0) (xK (bool false))) (sG (xL 0) false (sV (oMov (xK (bool true)))) (sG (xL 0) true (sV (oMov (xT 3))) (sG (xL 1) true (sV (oBin .lss .no (ki 0) (xL 0))) (sG (xL 2) true (sV (oMov (xL 0))) (sG (xL 0) true (sV (oMov (xT 3))) (sG (xL 1) true (sV (oBin .lss .no (xL 0) (ki 19))) (sG (xL 5) true (sV (oPick (xL 2) (xL 0) (xK (bool false)))) (sG (xL 7) false (sV (oPick (xL 6) (xL 0) (xK (bool false)))) (sV (oPick (xL 8) (xK (bool true)) (xL 0)) k))))))))))))))))) (xL 0) (kSeq (kReg (sS 10 (xT 0) sEnd))
 (kSeq (kRegC (fun k => (sV (oIdx (xT 0) (ki 0)) (sV (oBin .eql .no (xL 0) (xK (int .u8 (.ofNat 45)))) (sG (xL 0) false (sV (oMov (xT 0))) (sG (xL 1) false (sV (oIdx (xL 0) (ki 0))) (sG (xL 2) false (sV (oBin .eql .no (xL 0) (xK (int .u8 (.ofNat 43))))) (sV (oPick (xL 3) (xK (bool true)) (xL 0)) k))))))) (xL 0) (kSeq (kReg (sV (oMov (xT 0)) (sV (oSlcs (xL 0) (some (ki 1)) none) (sS 0 (xL 0) sEnd))))
 (kRegC (fun k => (sV (oLenS (xT 0)) (sV (oBin .lss .no (xL 0) (ki 1)) k))) (xL 0) (kSeq (kReg (sV (oMkif 343 (ki 2)) (sS 1 (ki 0) (sS 2 (xL 0) sEnd))))
 kRet)
 kSkip))
 kSkip)
 (kSeq (kReg (sS 9 (ki 0) sEnd))
 (kSeq (kSeq (kReg (sH (oS2b 5 (xT 0)) (sS 7 (xL 0) (sV (oLenL (xT 7)) (sS 4 (xL 0) (sS 5 (ki 0) sEnd))))))
 (kBlock 0 (kLoop (kSeq (kReg (sV (oBin .lss .no (xT 5) (xT 4)) (sS 6 (xL 0) sEnd)))
 (kSeq (kCond (xT 6) kSkip
 (kExit 0))
 (kSeq (kBlock 1 (kSeq (kReg (sV (oIaddr 1 (xT 7) (xT 5)) (sV (oLoad (xL 0)) (sS 8 (xL 0) sEnd))))
 (kSeq (kReg (sV (oMov (xT 8)) (sV (oBin .sub .no (xL 0) (xK (int .u8 (.ofNat 48)))) (sS 8 (xL 0) sEnd))))
 (kSeq (kRegC (fun k => (sV (oBin .gtr .no (xT 8) (xK (int .u8 (.ofNat 9)))) k)) (xL 0) (kSeq (kReg (sV (oMkif 343 (ki 2)) (sS 1 (ki 0) (sS 2 (xL 0) sEnd))))
 kRet)
 kSkip)
 (kReg (sV (oMov (xT 9)) (sV (oBin .mul .no (xL 0) (ki 10)) (sV (oConv .i64 (xT 8)) (sV (oBin .add .no (xL 1) (xL 0)) (sS 9 (xL 0) sEnd))))))))))
 (kReg (sV (oBin .add .no (xT 5) (ki 1)) (sS 5 (xL 0) sEnd)))))))))
 (kSeq (kRegC (fun k => (sV (oIdx (xT 10) (ki 0)) (sV (oBin .eql .no (xL 0) (xK (int .u8 (.ofNat 45)))) k))) (xL 0) (kReg (sV (oMov (xT 9)) (sV (oUn .neg (xL 0)) (sS 9 (xL 0) sEnd))))
 kSkip)
 (kSeq (kReg (sS 1 (xT 9) (sS 2 (xK nilif) sEnd)))
 kRet))))))
 kSkip)
 (kSeq (kReg (sC (cFn 239) [(xT 0), (ki 10), (ki 0)] (sV (oExt 0 (xL 0)) (sV (oExt 1 (xL 1)) (sS 12 (xL 1) (sS 11 (xL 0) sEnd))))))
 (kSeq (kReg (sS 1 (xT 12) (sS 2 (xT 11) sEnd)))
 kRet)))))
theorem t130 : FF d130 Tryz.f130 a130 [(.t 1), (.t 2)] := ff Tryz.func130 (by kernel_rfl)
def x130 : XFn := .go a130 1 pd12 [(.t 1), (.t 2)]
def d132 : FD := ⟨132, 1, [2]⟩
def a132 : CodeF := (kSeq (kReg (sS 1 (xK nils) sEnd))
 (kSeq (kReg (sV (oLenL (xT 0)) (sV (oLenL (xT 0)) (sV (oSlc 1 (xT 0) none (some (xL 1)) (some (xL 0))) (sS 1 (xL 0) sEnd)))))
 kRet))
theorem t132 : FF d132 Tryz.f132 a132 [(.t 1)] := ff Tryz.func132 (by kernel_rfl)
def x132 : XFn := .go a132 1 pd1 [(.t 1)]
def d133 : FD := ⟨133, 1, [2]⟩
def a133 : CodeF := (kSeq (kReg (sS 1 (xK (int .u64 (.ofNat 0))) sEnd))
 (kSeq (kReg (sV (oMkfn 204 [(xT 0)] []) (sC (cFn 244) [(xT 0), (xL 0)] (sS 1 (xL 0) sEnd))))
 kRet))
theorem t133 : FF d133 Tryz.f133 a133 [(.t 1)] := ff Tryz.func133 (by kernel_rfl)
def x133 : XFn := .go a133 1 pd1 [(.t 1)]
def d134 : FD := ⟨134, 1, [2, 3, 4, 11, 12, 13, 20, 21, 22, 6, 7, 5]⟩
def a134 : CodeF := (kSeq (kReg (sH (oAlloc 30 1 [nils]) (sS 1 (xL 0) (sS 2 (ki 0) sEnd))))
 (kSeq (kReg (sC (cFn 109) [(xT 0)] (sS 3 (xL 0) sEnd)))
 (kSeq (kReg (sH (oAlloc 30 1 [nils]) (sS 12 (xL 0) sEnd)))
 (kSeq (kSeq (kReg (sC (cFn 110) [(xT 3), (ki 16)] (sS 4 (xL 0) (sS 5 (ki 0) sEnd))))
 (kBlock 0 (kLoop (kSeq (kReg (sV (oBin .lss .no (xT 5) (xT 4)) (sS 6 (xL 0) sEnd)))
 (kSeq (kCond (xT 6) kSkip
 (kExit 0))
 (kSeq (kBlock 1 (kSeq (kReg (sC (cFn 245) [(xT 3), (ki 24)] (sC (cFn 110) [(xT 3), (ki 1073741824)] (sV (oBuild [(str []), (int .i64 (.ofNat 0)), nils, (int .i64 (.ofNat 0)), (int .i64 (.ofNat 0)), (bool false), (bool false)] [(0, 1, (xL 1)), (1, 1, (xL 0))]) (sH (oAlloc 48 7 [(str []), (int .i64 (.ofNat 0)), nils, (int .i64 (.ofNat 0)), (int .i64 (.ofNat 0)), (bool false), (bool false)]) (sS 10 (xL 0) (sH (oStore 7 (xT 10) (xL 1)) sEnd)))))))
 (kSeq (kSeq (kReg (sC (cFn 110) [(xT 3), (ki 8)] (sS 7 (xL 0) (sS 8 (ki 0) sEnd))))
 (kBlock 2 (kLoop (kSeq (kReg (sV (oBin .lss .no (xT 8) (xT 7)) (sS 9 (xL 0) sEnd)))
 (kSeq (kCond (xT 9) kSkip
 (kExit 2))
 (kSeq (kBlock 3 (kDraw [(.v (oFaddr 2 (xT 10)), none), (.v (oLoad (xL 0)), none), (.v (oMov (xT 3)), none), (.c (cFn 110) [(xL 0), (ki 1073741824)], none), (.h (oBsl 3 1 1 [(int .i64 (.ofNat 0))] [(0, 1, (xL 0))]), none), (.h (oApp 3 1 (xL 3) (xL 0)), none), (.v (oFaddr 2 (xT 10)), none), (.h (oStore 1 (xL 0) (xL 1)), none)] 0 [none, none, none, none, none, none, none, none, none, none, none, none, none] [(6, 4), (6, 3)]))
 (kReg (sV (oBin .add .no (xT 8) (ki 1)) (sS 8 (xL 0) sEnd)))))))))
 (kSeq (kReg (sC (cFn 110) [(xT 3), (ki 1073741824)] (sC (cFn 110) [(xT 3), (ki 1073741824)] (sV (oFaddr 3 (xT 10)) (sH (oStore 1 (xL 0) (xL 2)) (sV (oFaddr 4 (xT 10)) (sH (oStore 1 (xL 0) (xL 3)) sEnd)))))))
 (kSeq (kReg (sC (cFn 110) [(xT 3), (ki 3)] (sS 11 (xL 0) sEnd)))
 (kSeq (kReg (sV (oBin .and .no (xT 11) (ki 1)) (sV (oBin .eql .no (xL 0) (ki 1)) (sV (oBin .and .no (xT 11) (ki 2)) (sV (oBin .eql .no (xL 0) (ki 2)) (sV (oFaddr 5 (xT 10)) (sH (oStore 1 (xL 0) (xL 3)) (sV (oFaddr 6 (xT 10)) (sH (oStore 1 (xL 0) (xL 3)) sEnd)))))))))
 (kReg (sV (oFaddr 0 (xT 12)) (sV (oLoad (xL 0)) (sV (oLoadN 7 (xT 10)) (sH (oBsl 48 7 1 [(str []), (int .i64 (.ofNat 0)), nils, (int .i64 (.ofNat 0)), (int .i64 (.ofNat 0)), (bool false), (bool false)] [(0, 7, (xL 0))]) (sH (oApp 48 7 (xL 2) (xL 0)) (sV (oFaddr 0 (xT 12)) (sH (oStore 1 (xL 0) (xL 1)) sEnd))))))))))))))
 (kReg (sV (oBin .add .no (xT 5) (ki 1)) (sS 5 (xL 0) sEnd)))))))))
 (kSeq (kDraw [(.v (oLoadN 1 (xT 12)), none), (.v (oMov (xT 3)), none), (.c (cFn 135) [(xL 0)], none), (.h (oStore 1 (xT 1) (xL 2)), none), (.v (oMov (xL 1)), none)] 0 [none, none, (some 0), none, none, none, none, none, none, none, none, none, none] [(4, 2)])
 kRet)))))
theorem t134 : FF d134 Tryz.f134 a134 [(.cell 1 (some 1)), (.t 2)] := ff Tryz.func134 (by kernel_rfl)
def x134 : XFn := .go a134 1 pd12 [(.cell 1 (some 1)), (.t 2)]
def d135 : FD := ⟨135, 1, [2]⟩
def a135 : CodeF := (kSeq (kReg (sS 1 (ki 0) sEnd))
 (kSeq (kRegC (fun k => (sV (oBin .neq .ptr (xT 0) (xK nilptr)) (sG (xL 0) true (sV (oMov (xT 0))) (sG (xL 1) true (sV (oNilc (xL 0))) (sG (xL 2) true (sV (oFaddr 2 (xL 0))) (sG (xL 3) true (sV (oLoad (xL 0))) (sG (xL 4) true (sV (oBin .eql .no (xL 0) (ki 0))) (sV (oPick (xL 5) (xL 0) (xK (bool false))) (sG (xL 0) true (sV (oMov (xT 0))) (sG (xL 1) true (sC (cFn 113) [(xL 0)]) (sG (xL 2) true (sV (oBin .gtr .no (xL 0) (ki 0))) (sV (oPick (xL 3) (xL 0) (xK (bool false))) k)))))))))))) (xL 0) (kReg (sV (oNilc (xT 0)) (sV (oFaddr 2 (xL 0)) (sH (oStore 1 (xL 0) (ki 20)) sEnd))))
 kSkip)
 (kSeq (kReg (sC (cFn 115) [(xT 0)] (sS 1 (xL 0) sEnd)))
 kRet)))
theorem t135 : FF d135 Tryz.f135 a135 [(.t 1)] := ff Tryz.func135 (by kernel_rfl)
def x135 : XFn := .go a135 1 pd1 [(.t 1)]
def d136 : FD := ⟨136, 1, [2, 3, 4, 5, 21, 22, 23, 20, 6, 7]⟩
def a136 : CodeF := (kSeq (kReg (sS 1 (xK nilptr) (sS 2 (ki 0) sEnd)))
 (kSeq (kReg (sC (cFn 109) [(xT 0)] (sS 3 (xL 0) sEnd)))
 (kSeq (kReg (sC (cFn 110) [(xT 3), (ki 16384)] (sC (cFn 71) [(xL 0)] (sS 4 (xL 0) sEnd))))
 (kSeq (kSeq (kReg (sV (oNilc (xT 4)) (sV (oFaddr 1 (xL 0)) (sV (oLoad (xL 0)) (sV (oBin .add .no (xL 0) (ki 7)) (sV (oBin .quo .no (xL 0) (ki 8)) (sC (cFn 112) [(xT 3), (xL 0)] (sS 8 (xL 0) (sV (oLenL (xT 8)) (sS 5 (xL 0) (sS 6 (ki 0) sEnd)))))))))))
 (kBlock 0 (kLoop (kSeq (kReg (sV (oBin .lss .no (xT 6) (xT 5)) (sS 7 (xL 0) sEnd)))
 (kSeq (kCond (xT 7) kSkip
 (kExit 0))
 (kSeq (kBlock 1 (kSeq (kReg (sV (oIaddr 1 (xT 8) (xT 6)) (sV (oLoad (xL 0)) (sS 9 (xT 6) (sS 10 (xL 0) sEnd)))))
 (kSeq (kRegC (fun k => (sV (oBin .mul .no (ki 8) (xT 9)) (sV (oBin .add .no (xL 0) (ki 8)) (sV (oNilc (xT 4)) (sV (oFaddr 1 (xL 0)) (sV (oLoad (xL 0)) (sV (oBin .gtr .no (xL 3) (xL 0)) (sG (xL 0) true (sV (oMov (xT 10))) (sG (xL 1) true (sV (oMov (xT 4))) (sG (xL 2) true (sV (oNilc (xL 0))) (sG (xL 3) true (sV (oFaddr 1 (xL 0))) (sG (xL 4) true (sV (oLoad (xL 0))) (sG (xL 5) true (sV (oMov (xT 9))) (sG (xL 6) true (sV (oBin .mul .no (ki 8) (xL 0))) (sG (xL 7) true (sV (oBin .sub .no (xL 2) (xL 0))) (sG (xL 8) true (sV (oBin .shr .no (xL 7) (xL 0))) (sG (xL 9) true (sV (oBin .neq .no (xL 0) (xK (int .u8 (.ofNat 0))))) (sV (oPick (xL 10) (xL 0) (xK (bool false))) k)))))))))))))))))) (xL 0) (kSeq (kReg (sS 1 (xK nilptr) (sS 2 (ki 20) sEnd)))
 kRet)
 kSkip)
 (kDraw [(.v (oMov (xT 4)), none), (.v (oNilc (xL 0)), none), (.v (oFaddr 0 (xL 0)), none), (.v (oLoad (xL 0)), none), (.v (oMov (xT 9)), none), (.v (oBin .quo .no (xL 0) (ki 8)), none), (.v (oIaddr 1 (xL 2) (xL 0)), none), (.v (oLoad (xL 0)), none), (.v (oMov (xT 10)), none), (.v (oConv .u64 (xL 0)), none), (.v (oMov (xT 9)), none), (.v (oBin .rem .no (xL 0) (ki 8)), none), (.v (oBin .mul .no (ki 8) (xL 0)), none), (.v (oBin .shl .no (xL 3) (xL 0)), none), (.v (oBin .or .no (xL 6) (xL 0)), none), (.v (oIaddr 1 (xL 11) (xL 9)), none), (.h (oStore 1 (xL 0) (xL 1)), none)] 0 [none, none, none, none, none, none, none, none, none, none, none] []))))
 (kReg (sV (oBin .add .no (xT 6) (ki 1)) (sS 6 (xL 0) sEnd)))))))))
 (kSeq (kRegC (fun k => (sC (cFn 135) [(xT 3)] (sV (oBin .neq .no (xL 0) (ki 0)) k))) (xL 0) (kSeq (kReg (sS 1 (xK nilptr) (sS 2 (ki 20) sEnd)))
 kRet)
 kSkip)
 (kSeq (kReg (sS 1 (xT 4) (sS 2 (ki 0) sEnd)))
 kRet))))))
theorem t136 : FF d136 Tryz.f136 a136 [(.t 1), (.t 2)] := ff Tryz.func136 (by kernel_rfl)
def x136 : XFn := .go a136 1 pd10 [(.t 1), (.t 2)]
def d137 : FD := ⟨137, 3, [6, 16, 17, 18, 15, 7, 9, 8]⟩
def a137 : CodeF := (kSeq (kReg (sS 3 (xK (bool false)) sEnd))
 (kSeq (kRegC (fun k => (sV (oLenL (xT 0)) (sV (oLenL (xT 1)) (sV (oBin .neq .no (xL 1) (xL 0)) k)))) (xL 0) (kSeq (kReg (sS 3 (xK (bool false)) sEnd))
 kRet)
 kSkip)
 (kSeq (kSeq (kReg (sS 7 (xT 0) (sV (oLenL (xT 7)) (sS 4 (xL 0) (sS 5 (ki 0) sEnd)))))
 (kBlock 0 (kLoop (kSeq (kReg (sV (oBin .lss .no (xT 5) (xT 4)) (sS 6 (xL 0) sEnd)))
 (kSeq (kCond (xT 6) kSkip
 (kExit 0))
 (kSeq (kBlock 1 (kSeq (kReg (sV (oIaddr 7 (xT 7) (xT 5)) (sV (oLoadN 7 (xL 0)) (sH (oAlloc 48 7 [(str []), (int .i64 (.ofNat 0)), nils, (int .i64 (.ofNat 0)), (int .i64 (.ofNat 0)), (bool false), (bool false)]) (sS 10 (xL 0) (sS 8 (xT 5) (sH (oStore 7 (xT 10) (xL 1)) sEnd)))))))
 (kSeq (kReg (sV (oIaddr 7 (xT 1) (xT 8)) (sV (oLoadN 7 (xL 0)) (sH (oAlloc 48 7 [(str []), (int .i64 (.ofNat 0)), nils, (int .i64 (.ofNat 0)), (int .i64 (.ofNat 0)), (bool false), (bool false)]) (sS 9 (xL 0) (sH (oStore 7 (xT 9) (xL 1)) sEnd))))))
 (kRegC (fun k => (sV (oLoadN 7 (xT 10)) (sV (oLoadN 7 (xT 9)) (sC (cVal (xT 2)) [(xL 1), (xL 0)] (sV (oUn .not (xL 0)) k))))) (xL 0) (kSeq (kReg (sS 3 (xK (bool false)) sEnd))
 kRet)
 kSkip))))
 (kReg (sV (oBin .add .no (xT 5) (ki 1)) (sS 5 (xL 0) sEnd)))))))))
 (kSeq (kReg (sS 3 (xK (bool true)) sEnd))
 kRet))))
theorem t137 : FF d137 Tryz.f137 a137 [(.t 3)] := ff Tryz.func137 (by kernel_rfl)
def x137 : XFn := .go a137 3 pd8 [(.t 3)]
def d138 : FD := ⟨138, 2, [4, 3, 2]⟩
def a138 : CodeF := (kSeq (kReg (sH (oBox 48 7 (xT 0)) (sS 4 (xL 0) (sH (oBox 48 7 (xT 1)) (sS 3 (xL 0) (sS 2 (xK (bool false)) sEnd))))))
 (kSeq (kReg (sV (oFaddr 2 (xT 4)) (sV (oLoad (xL 0)) (sV (oFaddr 2 (xT 3)) (sV (oLoad (xL 0)) (sC (cFn 139) [(xL 2), (xL 0)] (sG (xL 0) true (sV (oFaddr 0 (xT 4))) (sG (xL 1) true (sV (oLoad (xL 0))) (sG (xL 2) true (sV (oFaddr 0 (xT 3))) (sG (xL 3) true (sV (oLoad (xL 0))) (sG (xL 4) true (sV (oBin .eql .no (xL 2) (xL 0))) (sV (oPick (xL 5) (xL 0) (xK (bool false))) (sG (xL 0) true (sV (oFaddr 1 (xT 4))) (sG (xL 1) true (sV (oLoad (xL 0))) (sG (xL 2) true (sV (oFaddr 1 (xT 3))) (sG (xL 3) true (sV (oLoad (xL 0))) (sG (xL 4) true (sV (oBin .eql .no (xL 2) (xL 0))) (sV (oPick (xL 5) (xL 0) (xK (bool false))) (sG (xL 0) true (sV (oFaddr 3 (xT 4))) (sG (xL 1) true (sV (oLoad (xL 0))) (sG (xL 2) true (sV (oFaddr 3 (xT 3))) (sG (xL 3) true (sV (oLoad (xL 0))) (sG (xL 4) true (sV (oBin .eql .no (xL 2) (xL 0))) (sV (oPick (xL 5) (xL 0) (xK (bool false))) (sG (xL 0) true (sV (oFaddr 4 (xT 4))) (sG (xL 1) true (sV (oLoad (xL 0))) (sG (xL 2) true (sV (oFaddr 4 (xT 3))) (sG (xL 3) true (sV (oLoad (xL 0))) (sG (xL 4) true (sV (oBin .eql .no (xL 2) (xL 0))) (sV (oPick (xL 5) (xL 0) (xK (bool false))) (sG (xL 0) true (sV (oFaddr 5 (xT 4))) (sG (xL 1) true (sV (oLoad (xL 0))) (sG (xL 2) true (sV (oFaddr 5 (xT 3))) (sG (xL 3) true (sV (oLoad (xL 0))) (sG (xL 4) true (sV (oBin .eql .bool (xL 2) (xL 0))) (sV (oPick (xL 5) (xL 0) (xK (bool false))) (sG (xL 0) true (sV (oFaddr 6 (xT 4))) (sG (xL 1) true (sV (oLoad (xL 0))) (sG (xL 2) true (sV (oFaddr 6 (xT 3))) (sG (xL 3) true (sV (oLoad (xL 0))) (sG (xL 4) true (sV (oBin .eql .bool (xL 2) (xL 0))) (sV (oPick (xL 5) (xL 0) (xK (bool false))) (sS 2 (xL 0) sEnd)))))))))))))))))))))))))))))))))))))))))))
 kRet))
theorem t138 : FF d138 Tryz.f138 a138 [(.t 2)] := ff Tryz.func138 (by kernel_rfl)
def x138 : XFn := .go a138 2 pd3 [(.t 2)]
def d139 : FD := ⟨139, 2, [4, 12, 13, 14, 5, 24]⟩
def a139 : CodeF := (kSeq (kReg (sS 2 (xK (bool false)) sEnd))
 (kSeq (kRegC (fun k => (sV (oLenL (xT 0)) (sV (oLenL (xT 1)) (sV (oBin .neq .no (xL 1) (xL 0)) k)))) (xL 0) (kSeq (kReg (sS 2 (xK (bool false)) sEnd))
 kRet)
 kSkip)
 (kSeq (kSeq (kReg (sV (oLenL (xT 0)) (sS 3 (xL 0) (sS 4 (ki 0) sEnd))))
 (kBlock 0 (kLoop (kSeq (kReg (sV (oBin .lss .no (xT 4) (xT 3)) (sS 5 (xL 0) sEnd)))
 (kSeq (kCond (xT 5) kSkip
 (kExit 0))
 (kSeq (kBlock 1 (kSeq (kReg (sS 6 (xT 4) sEnd))
 (kSeq (kDraw [(.v (oMov (xT 0)), none), (.v (oMov (xT 6)), none), (.v (oIaddr 1 (xL 1) (xL 0)), none), (.v (oLoad (xL 0)), none), (.v (oMov (xT 1)), none), (.v (oMov (xT 6)), none), (.v (oIaddr 1 (xL 1) (xL 0)), none), (.v (oLoad (xL 0)), none), (.v (oBin .neq .no (xL 4) (xL 0)), none)] 0 [none, none, none, none, none, none, none, (some 0)] [])
 (kCond (xT 7) (kSeq (kReg (sS 2 (xK (bool false)) sEnd))
 kRet)
 kSkip))))
 (kReg (sV (oBin .add .no (xT 4) (ki 1)) (sS 4 (xL 0) sEnd)))))))))
 (kSeq (kReg (sS 2 (xK (bool true)) sEnd))
 kRet))))
theorem t139 : FF d139 Tryz.f139 a139 [(.t 2)] := ff Tryz.func139 (by kernel_rfl)
def x139 : XFn := .go a139 2 pd6 [(.t 2)]
def d140 : FD := ⟨140, 1, [2, 1, 19, 20, 21, 18, 4, 3, 5]⟩
def a140 : CodeF := (kSeq (kReg (sH (oBox 30 1 (xT 0)) (sS 2 (xL 0) (sS 1 (ki 0) sEnd))))
 (kSeq (kRegC (fun k => (sV (oFaddr 0 (xT 2)) (sV (oLoad (xL 0)) (sV (oLenL (xL 0)) (sV (oBin .lss .no (xL 0) (ki 1)) (sG (xL 0) false (sV (oFaddr 0 (xT 2))) (sG (xL 1) false (sV (oLoad (xL 0))) (sG (xL 2) false (sV (oLenL (xL 0))) (sG (xL 3) false (sV (oBin .gtr .no (xL 0) (ki 16))) (sV (oPick (xL 4) (xK (bool true)) (xL 0)) k)))))))))) (xL 0) (kSeq (kReg (sS 1 (ki 80) sEnd))
 kRet)
 kSkip)
 (kSeq (kSeq (kReg (sV (oFaddr 0 (xT 2)) (sV (oLoad (xL 0)) (sS 6 (xL 0) (sV (oLenL (xT 6)) (sS 3 (xL 0) (sS 4 (ki 0) sEnd)))))))
 (kBlock 0 (kLoop (kSeq (kReg (sV (oBin .lss .no (xT 4) (xT 3)) (sS 5 (xL 0) sEnd)))
 (kSeq (kCond (xT 5) kSkip
 (kExit 0))
 (kSeq (kBlock 1 (kSeq (kReg (sV (oIaddr 7 (xT 6) (xT 4)) (sV (oLoadN 7 (xL 0)) (sH (oAlloc 48 7 [(str []), (int .i64 (.ofNat 0)), nils, (int .i64 (.ofNat 0)), (int .i64 (.ofNat 0)), (bool false), (bool false)]) (sS 7 (xL 0) (sS 8 (xT 4) (sH (oStore 7 (xT 7) (xL 1)) sEnd)))))))
 (kSeq (kReg (sV (oLoadN 1 (xT 2)) (sV (oFaddr 0 (xT 7)) (sV (oLoad (xL 0)) (sC (cFn 176) [(xL 2), (xL 0)] (sV (oExt 0 (xL 0)) (sV (oExt 1 (xL 1)) (sS 9 (xL 1) sEnd))))))))
 (kRegC (fun k => (sV (oBin .neq .no (xT 9) (xT 8)) (sG (xL 0) false (sV (oLoadN 7 (xT 7))) (sG (xL 1) false (sC (cFn 246) [(xL 0)]) (sG (xL 2) false (sV (oUn .not (xL 0))) (sV (oPick (xL 3) (xK (bool true)) (xL 0)) k)))))) (xL 0) (kSeq (kReg (sS 1 (ki 80) sEnd))
 kRet)
 kSkip))))
 (kReg (sV (oBin .add .no (xT 4) (ki 1)) (sS 4 (xL 0) sEnd)))))))))
 (kSeq (kReg (sS 1 (ki 0) sEnd))
 kRet))))
theorem t140 : FF d140 Tryz.f140 a140 [(.t 1)] := ff Tryz.func140 (by kernel_rfl)
def x140 : XFn := .go a140 1 pd9 [(.t 1)]
def d141 : FD := ⟨141, 2, [4]⟩
def a141 : CodeF := (kSeq (kReg (sH (oAlloc 86 2 [(int .u64 (.ofNat 0)), nils]) (sS 2 (xL 0) sEnd)))
 (kSeq (kRegC (fun k => (sV (oBin .lss .no (xT 1) (ki 0)) (sG (xL 0) false (sV (oMov (xT 1))) (sG (xL 1) false (sV (oMov (xT 0))) (sG (xL 2) false (sC (cFn 73) [(xL 0)]) (sG (xL 3) false (sV (oBin .geq .no (xL 2) (xL 0))) (sV (oPick (xL 4) (xK (bool true)) (xL 0)) k))))))) (xL 0) (kSeq (kReg (sV (oBuild [(int .u64 (.ofNat 0)), nils] []) (sH (oStore 2 (xT 2) (xL 0)) sEnd)))
 kRet)
 kSkip)
 (kSeq (kDraw [(.v (oMov (xT 0)), none), (.v (oNilc (xL 0)), none), (.v (oFaddr 2 (xL 0)), none), (.v (oLoad (xL 0)), none), (.v (oMov (xT 1)), none), (.v (oIaddr 1 (xL 1) (xL 0)), none), (.v (oLoad (xL 0)), none), (.v (oMov (xT 0)), none), (.v (oNilc (xL 0)), none), (.v (oFaddr 3 (xL 0)), none), (.v (oLoad (xL 0)), none), (.v (oMov (xT 1)), none), (.c (cFn 247) [(xL 1), (xL 0)], none), (.v (oBuild [nils] [(0, 1, (xL 0))]), none), (.v (oBuild [(int .u64 (.ofNat 0)), nils] [(0, 1, (xL 7)), (1, 1, (xL 0))]), none), (.h (oStore 2 (xT 2) (xL 0)), none)] 0 [none, none, none] [(12, 3), (9, 3)])
 kRet)))
theorem t141 : FF d141 Tryz.f141 a141 [(.cell 2 (some 2))] := ff Tryz.func141 (by kernel_rfl)
def x141 : XFn := .go a141 2 pd1 [(.cell 2 (some 2))]
def d142 : FD := ⟨142, 2, [4]⟩
def a142 : CodeF := (kSeq (kReg (sS 2 (xK (bool false)) sEnd))
 (kSeq (kReg (sV (oB2s (xT 0)) (sV (oB2s (xT 1)) (sV (oBin .eql .no (xL 1) (xL 0)) (sS 2 (xL 0) sEnd)))))
 kRet))
theorem t142 : FF d142 Tryz.f142 a142 [(.t 2)] := ff Tryz.func142 (by kernel_rfl)
def x142 : XFn := .go a142 2 pd1 [(.t 2)]
def d144 : FD := ⟨144, 2, [4, 7, 8, 9, 5]⟩
def a144 : CodeF := (kSeq (kReg (sS 2 (ki 0) sEnd))
 (kSeq (kSeq (kReg (sV (oLenL (xT 0)) (sS 3 (xL 0) (sS 4 (ki 0) sEnd))))
 (kBlock 0 (kLoop (kSeq (kReg (sV (oBin .lss .no (xT 4) (xT 3)) (sS 5 (xL 0) sEnd)))
 (kSeq (kCond (xT 5) kSkip
 (kExit 0))
 (kSeq (kBlock 1 (kSeq (kReg (sS 6 (xT 4) sEnd))
 (kRegC (fun k => (sV (oIaddr 1 (xT 0) (xT 6)) (sV (oLoad (xL 0)) (sV (oBin .eql .no (xT 1) (xL 0)) k)))) (xL 0) (kSeq (kReg (sS 2 (xT 6) sEnd))
 kRet)
 kSkip)))
 (kReg (sV (oBin .add .no (xT 4) (ki 1)) (sS 4 (xL 0) sEnd)))))))))
 (kSeq (kReg (sS 2 (xK (int .i64 (.negSucc 0))) sEnd))
 kRet)))
theorem t144 : FF d144 Tryz.f144 a144 [(.t 2)] := ff Tryz.func144 (by kernel_rfl)
def x144 : XFn := .go a144 2 pd5 [(.t 2)]
def d145 : FD := ⟨145, 1, [2]⟩
def a145 : CodeF := (kSeq (kReg (sS 1 (xK (str [])) sEnd))
 (kSeq (kReg (sC (cFn 248) [(xT 0), (ki 10)] (sS 1 (xL 0) sEnd)))
 kRet))
theorem t145 : FF d145 Tryz.f145 a145 [(.t 1)] := ff Tryz.func145 (by kernel_rfl)
def x145 : XFn := .go a145 1 pd1 [(.t 1)]
def d146 : FD := ⟨146, 2, [4, 5, 7, 6, 9, 8]⟩
def a146 : CodeF := (kSeq (kReg (sS 2 (xK (int .u64 (.ofNat 0))) (sS 3 (xK (int .u64 (.ofNat 0))) sEnd)))
 (kSeq (kCond (xK (bool false)) (kSeq (kReg (sV (oConv .u32 (xT 0)) (sV (oConv .u32 (xT 1)) (sC (cFn 249) [(xL 1), (xL 0)] (sV (oExt 0 (xL 0)) (sV (oExt 1 (xL 1)) (sS 5 (xL 1) (sS 4 (xL 0) sEnd))))))))
 (kSeq (kReg (sV (oConv .u64 (xT 5)) (sV (oConv .u64 (xT 4)) (sS 2 (xL 1) (sS 3 (xL 0) sEnd)))))
 kRet))
 kSkip)
 (kSeq (kReg (sC (cFn 250) [(xT 0), (xT 1)] (sV (oExt 0 (xL 0)) (sV (oExt 1 (xL 1)) (sS 7 (xL 1) (sS 6 (xL 0) sEnd))))))
 (kSeq (kReg (sS 2 (xT 7) (sS 3 (xT 6) sEnd)))
 kRet))))
theorem t146 : FF d146 Tryz.f146 a146 [(.t 2), (.t 3)] := ff Tryz.func146 (by kernel_rfl)
def x146 : XFn := .go a146 2 pd6 [(.t 2), (.t 3)]
def d147 : FD := ⟨147, 2, [4]⟩
def a147 : CodeF := (kSeq (kReg (sS 2 (xK (bool false)) sEnd))
 (kSeq (kReg (sC (cFn 251) [(xT 0), (xT 1)] (sS 2 (xL 0) sEnd)))
 kRet))
theorem t147 : FF d147 Tryz.f147 a147 [(.t 2)] := ff Tryz.func147 (by kernel_rfl)
def x147 : XFn := .go a147 2 pd1 [(.t 2)]
def d152 : FD := ⟨152, 3, [6, 7, 30]⟩
def a152 : CodeF := (kSeq (kReg (sV (oBin .add .no (xT 1) (ki 1)) (sS 3 (xL 0) sEnd)))
 (kBlock 0 (kLoop (kSeq (kRegC (fun k => (sV (oBin .lss .no (xT 3) (xT 2)) k)) (xL 0) kSkip
 (kExit 0))
 (kSeq (kBlock 1 (kSeq (kReg (sS 4 (xT 3) sEnd))
 (kBlock 2 (kLoop (kSeq (kSeq (kDraw [(.v (oMov (xT 4)), none), (.v (oMov (xT 1)), none), (.v (oBin .gtr .no (xL 1) (xL 0)), none), (.v (oMov (xL 0)), none), (.v (oMov (xT 0)), (some ((xL 0), true))), (.v (oMov (xT 4)), (some ((xL 1), true))), (.v (oIaddr 1 (xL 1) (xL 0)), (some ((xL 2), true))), (.v (oLoad (xL 0)), (some ((xL 3), true))), (.v (oMov (xT 0)), (some ((xL 4), true))), (.v (oMov (xT 4)), (some ((xL 5), true))), (.v (oBin .sub .no (xL 0) (ki 1)), (some ((xL 6), true))), (.v (oIaddr 1 (xL 2) (xL 0)), (some ((xL 7), true))), (.v (oLoad (xL 0)), (some ((xL 8), true))), (.c (cFn 158) [(xL 5), (xL 0)], (some ((xL 9), true))), (.v (oPick (xL 10) (xL 0) (xK (bool false))), none)] 0 [none, none, none, none, none, (some 0)] [])
 (kCond (xT 5) kSkip
 (kExit 2)))
 (kSeq (kBlock 3 (kDraw [(.v (oMov (xT 0)), none), (.v (oMov (xT 4)), none), (.v (oMov (xT 0)), none), (.v (oMov (xT 4)), none), (.v (oBin .sub .no (xL 0) (ki 1)), none), (.v (oMov (xT 0)), none), (.v (oMov (xT 4)), none), (.v (oBin .sub .no (xL 0) (ki 1)), none), (.v (oIaddr 1 (xL 2) (xL 0)), none), (.v (oLoad (xL 0)), none), (.v (oMov (xT 0)), none), (.v (oMov (xT 4)), none), (.v (oIaddr 1 (xL 1) (xL 0)), none), (.v (oLoad (xL 0)), none), (.v (oIaddr 1 (xL 13) (xL 12)), none), (.h (oStore 1 (xL 0) (xL 5)), none), (.v (oIaddr 1 (xL 13) (xL 11)), none), (.h (oStore 1 (xL 0) (xL 3)), none)] 0 [none, none, none, none, none, none] []))
 (kReg (sV (oMov (xT 4)) (sV (oBin .sub .no (xL 0) (ki 1)) (sS 4 (xL 0) sEnd))))))))))
 (kReg (sV (oMov (xT 3)) (sV (oBin .add .no (xL 0) (ki 1)) (sS 3 (xL 0) sEnd)))))))))
theorem t152 : FF d152 Tryz.f152 a152 [] := ff Tryz.func152 (by kernel_rfl)
def x152 : XFn := .go a152 3 pd3 []
def d158 : FD := ⟨158, 2, [4]⟩
def a158 : CodeF := (kSeq (kReg (sS 2 (xK (bool false)) sEnd))
 (kSeq (kReg (sC (cFn 259) [(xT 0)] (sG (xL 0) true (sV (oMov (xT 1))) (sG (xL 1) true (sC (cFn 259) [(xL 0)]) (sG (xL 2) true (sV (oUn .not (xL 0))) (sV (oPick (xL 3) (xL 0) (xK (bool false))) (sG (xL 0) false (sV (oMov (xT 0))) (sG (xL 1) false (sV (oMov (xT 1))) (sG (xL 2) false (sV (oBin .lss .no (xL 1) (xL 0))) (sV (oPick (xL 3) (xK (bool true)) (xL 0)) (sS 2 (xL 0) sEnd)))))))))))
 kRet))
theorem t158 : FF d158 Tryz.f158 a158 [(.t 2)] := ff Tryz.func158 (by kernel_rfl)
def x158 : XFn := .go a158 2 pd1 [(.t 2)]
def d162 : FD := ⟨162, 1, [2]⟩
def a162 : CodeF := (kSeq (kReg (sS 1 (ki 0) sEnd))
 (kSeq (kRegC (fun k => (sV (oBin .geq .no (xT 0) (xK (int .u64 (.ofNat 4294967296)))) k)) (xL 0) (kSeq (kReg (sV (oMov (xT 0)) (sV (oBin .shr .no (xL 0) (xK (int .u64 (.ofNat 32)))) (sS 0 (xL 0) sEnd))))
 (kReg (sS 1 (ki 32) sEnd)))
 kSkip)
 (kSeq (kRegC (fun k => (sV (oBin .geq .no (xT 0) (xK (int .u64 (.ofNat 65536)))) k)) (xL 0) (kSeq (kReg (sV (oMov (xT 0)) (sV (oBin .shr .no (xL 0) (xK (int .u64 (.ofNat 16)))) (sS 0 (xL 0) sEnd))))
 (kReg (sV (oMov (xT 1)) (sV (oBin .add .no (xL 0) (ki 16)) (sS 1 (xL 0) sEnd)))))
 kSkip)
 (kSeq (kRegC (fun k => (sV (oBin .geq .no (xT 0) (xK (int .u64 (.ofNat 256)))) k)) (xL 0) (kSeq (kReg (sV (oMov (xT 0)) (sV (oBin .shr .no (xL 0) (xK (int .u64 (.ofNat 8)))) (sS 0 (xL 0) sEnd))))
 (kReg (sV (oMov (xT 1)) (sV (oBin .add .no (xL 0) (ki 8)) (sS 1 (xL 0) sEnd)))))
 kSkip)
 (kSeq (kReg (sV (oMov (xT 1)) (sV (oConv .u8 (xT 0)) (sV (oIdx (xK (str [0, 1, 2, 2, 3, 3, 3, 3, 4, 4, 4, 4, 4, 4, 4, 4, 5, 5, 5, 5, 5, 5, 5, 5, 5, 5, 5, 5, 5, 5, 5, 5, 6, 6, 6, 6, 6, 6, 6, 6, 6, 6, 6, 6, 6, 6, 6, 6, 6, 6, 6, 6, 6, 6, 6, 6, 6, 6, 6, 6, 6, 6, 6, 6, 7, 7, 7, 7, 7, 7, 7, 7, 7, 7, 7, 7, 7, 7, 7, 7, 7, 7, 7, 7, 7, 7, 7, 7, 7, 7, 7, 7, 7, 7, 7, 7, 7, 7, 7, 7, 7, 7, 7, 7, 7, 7, 7, 7, 7, 7, 7, 7, 7, 7, 7, 7, 7, 7, 7, 7, 7, 7, 7, 7, 7, 7, 7, 7, 8, 8, 8, 8, 8, 8, 8, 8, 8, 8, 8, 8, 8, 8, 8, 8, 8, 8, 8, 8, 8, 8, 8, 8, 8, 8, 8, 8, 8, 8, 8, 8, 8, 8, 8, 8, 8, 8, 8, 8, 8, 8, 8, 8, 8, 8, 8, 8, 8, 8, 8, 8, 8, 8, 8, 8, 8, 8, 8, 8, 8, 8, 8, 8, 8, 8, 8, 8, 8, 8, 8, 8, 8, 8, 8, 8, 8, 8, 8, 8, 8, 8, 8, 8, 8, 8, 8, 8, 8, 8, 8, 8, 8, 8, 8, 8, 8, 8, 8, 8, 8, 8, 8, 8, 8, 8, 8, 8, 8, 8, 8, 8, 8, 8, 8, 8, 8, 8, 8, 8, 8, 8, 8, 8, 8, 8, 8, 8])) (xL 0)) (sV (oConv .i64 (xL 0)) (sV (oBin .add .no (xL 3) (xL 0)) (sS 1 (xL 0) sEnd)))))))
 kRet)))))
theorem t162 : FF d162 Tryz.f162 a162 [(.t 1)] := ff Tryz.func162 (by kernel_rfl)
def x162 : XFn := .go a162 1 pd1 [(.t 1)]
def d163 : FD := ⟨163, 2, [4, 6, 7, 2, 5]⟩
def a163 : CodeF := (kSeq (kReg (sH (oBox 35 1 (xT 0)) (sS 5 (xL 0) (sS 2 (xK nils) sEnd))))
 (kSeq (kSeq (kReg (sS 3 (xT 1) sEnd))
 (kBlock 0 (kRf 16779834 [4] (xT 3))))
 (kSeq (kReg (sV (oLoad (xT 5)) (sS 2 (xL 0) sEnd)))
 kRet)))
theorem t163 : FF d163 Tryz.f163 a163 [(.t 2)] := ff Tryz.func163 (by kernel_rfl)
def x163 : XFn := .go a163 2 pd5 [(.t 2)]
def r163x0 : CodeF × CodeF := ((kReg (sS 6 (xT 4) sEnd)),
 (kBlock 1 (kReg (sV (oLoad (xT 5)) (sH (oBsl 9 1 1 [(str [])] [(0, 1, (xT 6))]) (sH (oApp 9 1 (xL 1) (xL 0)) (sH (oStore 1 (xT 5) (xL 0)) sEnd)))))))
theorem u163x0 : RfFact Tryz.prog d163 Tryz.f163 16779834 r163x0 := ⟨Tryz.func163, by kernel_rfl⟩
def d164 : FD := ⟨164, 1, [2]⟩
def a164 : CodeF := (kSeq (kReg (sS 1 (xK nils) sEnd))
 (kSeq (kRegC (fun k => (sV (oBin .eql .slice (xT 0) (xK nils)) k)) (xL 0) (kSeq (kReg (sS 1 (xK nils) sEnd))
 kRet)
 kSkip)
 (kSeq (kReg (sH (oBsl 33 1 0 [(int .u64 (.ofNat 0))] []) (sH (oApp 33 1 (xL 0) (xT 0)) (sS 1 (xL 0) sEnd))))
 kRet)))
theorem t164 : FF d164 Tryz.f164 a164 [(.t 1)] := ff Tryz.func164 (by kernel_rfl)
def x164 : XFn := .go a164 1 pd1 [(.t 1)]
def d165 : FD := ⟨165, 4, [10, 8, 12, 11, 9, 87, 13, 15, 14, 17, 16, 18]⟩
def a165 : CodeF := (kSeq (kReg (sS 5 (xK (bool true)) sEnd))
 (kSeq (kReg (sS 8 (xK (bool true)) sEnd))
 (kBlock 0 (kLoop (kBlock 1 (kSeq (kReg (sV (oBin .sub .no (xT 2) (xT 1)) (sS 4 (xL 0) sEnd)))
 (kSeq (kRegC (fun k => (sV (oBin .leq .no (xT 4) (ki 12)) k)) (xL 0) (kSeq (kReg (sC (cFn 260) [(xT 0), (xT 1), (xT 2)] sEnd))
 kRet)
 kSkip)
 (kSeq (kRegC (fun k => (sV (oBin .eql .no (xT 3) (ki 0)) k)) (xL 0) (kSeq (kReg (sC (cFn 261) [(xT 0), (xT 1), (xT 2)] sEnd))
 kRet)
 kSkip)
 (kSeq (kRegC (fun k => (sV (oUn .not (xT 5)) k)) (xL 0) (kSeq (kReg (sC (cFn 262) [(xT 0), (xT 1), (xT 2)] sEnd))
 (kReg (sV (oMov (xT 3)) (sV (oBin .sub .no (xL 0) (ki 1)) (sS 3 (xL 0) sEnd)))))
 kSkip)
 (kSeq (kReg (sC (cFn 263) [(xT 0), (xT 1), (xT 2)] (sV (oExt 0 (xL 0)) (sV (oExt 1 (xL 1)) (sS 7 (xL 1) (sS 6 (xL 0) sEnd))))))
 (kSeq (kRegC (fun k => (sV (oBin .eql .no (xT 6) (ki 2)) k)) (xL 0) (kSeq (kReg (sC (cFn 264) [(xT 0), (xT 1), (xT 2)] sEnd))
 (kSeq (kReg (sV (oBin .sub .no (xT 2) (ki 1)) (sV (oMov (xT 7)) (sV (oBin .sub .no (xL 0) (xT 1)) (sV (oBin .sub .no (xL 2) (xL 0)) (sS 7 (xL 0) sEnd))))))
 (kReg (sS 6 (ki 1) sEnd))))
 kSkip)
 (kSeq (kRegC (fun k => (sG (xT 5) true (sV (oMov (xT 8))) (sV (oPick (xT 5) (xL 0) (xK (bool false))) (sG (xL 0) true (sV (oMov (xT 6))) (sG (xL 1) true (sV (oBin .eql .no (xL 0) (ki 1))) (sV (oPick (xL 2) (xL 0) (xK (bool false))) k)))))) (xL 0) (kRegC (fun k => (sC (cFn 265) [(xT 0), (xT 1), (xT 2)] k)) (xL 0) kRet
 kSkip)
 kSkip)
 (kSeq (kSeq (kDraw [(.v (oMov (xT 1)), none), (.v (oBin .gtr .no (xL 0) (ki 0)), none), (.v (oMov (xL 0)), none), (.v (oMov (xT 0)), (some ((xL 0), true))), (.v (oMov (xT 1)), (some ((xL 1), true))), (.v (oBin .sub .no (xL 0) (ki 1)), (some ((xL 2), true))), (.v (oIaddr 1 (xL 2) (xL 0)), (some ((xL 3), true))), (.v (oLoad (xL 0)), (some ((xL 4), true))), (.v (oMov (xT 0)), (some ((xL 5), true))), (.v (oMov (xT 7)), (some ((xL 6), true))), (.v (oIaddr 1 (xL 1) (xL 0)), (some ((xL 7), true))), (.v (oLoad (xL 0)), (some ((xL 8), true))), (.c (cFn 266) [(xL 4), (xL 0)], (some ((xL 9), true))), (.v (oUn .not (xL 0)), (some ((xL 10), true))), (.v (oPick (xL 11) (xL 0) (xK (bool false))), none)] 0 [none, none, none, none, none, none, none, none, none, (some 0), none, none, none, none, none, none] [])
 (kCond (xT 9) (kSeq (kReg (sC (cFn 267) [(xT 0), (xT 1), (xT 2), (xT 7)] (sS 10 (xL 0) sEnd)))
 (kSeq (kReg (sS 1 (xT 10) sEnd))
 (kExit 1)))
 kSkip))
 (kSeq (kReg (sC (cFn 268) [(xT 0), (xT 1), (xT 2), (xT 7)] (sV (oExt 0 (xL 0)) (sV (oExt 1 (xL 1)) (sS 12 (xL 1) (sS 11 (xL 0) sEnd))))))
 (kSeq (kReg (sS 8 (xT 11) sEnd))
 (kSeq (kReg (sV (oBin .sub .no (xT 12) (xT 1)) (sV (oBin .sub .no (xT 2) (xT 12)) (sS 14 (xL 1) (sS 13 (xL 0) sEnd)))))
 (kSeq (kReg (sV (oBin .quo .no (xT 4) (ki 8)) (sS 15 (xL 0) sEnd)))
 (kRegC (fun k => (sV (oBin .lss .no (xT 14) (xT 13)) k)) (xL 0) (kSeq (kReg (sV (oBin .geq .no (xT 14) (xT 15)) (sS 5 (xL 0) sEnd)))
 (kSeq (kReg (sC (cFn 165) [(xT 0), (xT 1), (xT 12), (xT 3)] sEnd))
 (kReg (sV (oBin .add .no (xT 12) (ki 1)) (sS 1 (xL 0) sEnd)))))
 (kSeq (kReg (sV (oBin .geq .no (xT 13) (xT 15)) (sS 5 (xL 0) sEnd)))
 (kSeq (kReg (sV (oBin .add .no (xT 12) (ki 1)) (sC (cFn 165) [(xT 0), (xL 0), (xT 2), (xT 3)] sEnd)))
 (kReg (sS 2 (xT 12) sEnd))))))))))))))))))))))
theorem t165 : FF d165 Tryz.f165 a165 [] := ff Tryz.func165 (by kernel_rfl)
def x165 : XFn := .go a165 4 pd12 []
def d166 : FD := ⟨166, 3, [6, 7, 21, 22, 23, 9, 8, 10]⟩
def a166 : CodeF := (kSeq (kReg (sS 3 (xK nilptr) sEnd))
 (kSeq (kReg (sC (cFn 72) [(xT 0)] (sC (cFn 71) [(xL 0)] (sS 4 (xL 0) sEnd))))
 (kSeq (kReg (sC (cFn 72) [(xT 0)] (sC (cFn 35) [(xL 0)] (sS 9 (xL 0) sEnd))))
 (kSeq (kSeq (kReg (sV (oNilc (xT 4)) (sV (oFaddr 0 (xL 0)) (sV (oLoad (xL 0)) (sV (oLenL (xL 0)) (sS 5 (xL 0) (sS 6 (ki 0) sEnd)))))))
 (kBlock 0 (kLoop (kSeq (kReg (sV (oBin .lss .no (xT 6) (xT 5)) (sS 7 (xL 0) sEnd)))
 (kSeq (kCond (xT 7) kSkip
 (kExit 0))
 (kSeq (kBlock 1 (kSeq (kReg (sS 8 (xT 6) sEnd))
 (kSeq (kReg (sS 10 (xK (int .u64 (.ofNat 0))) sEnd))
 (kSeq (kRegC (fun k => (sC (cFn 72) [(xT 1)] (sV (oBin .add .no (xL 0) (ki 63)) (sV (oBin .quo .no (xL 0) (ki 64)) (sV (oBin .lss .no (xT 8) (xL 0)) k))))) (xL 0) (kReg (sV (oNilc (xT 1)) (sV (oFaddr 0 (xL 0)) (sV (oLoad (xL 0)) (sV (oIaddr 1 (xL 0) (xT 8)) (sV (oLoad (xL 0)) (sS 10 (xL 0) sEnd)))))))
 kSkip)
 (kDraw [(.v (oMov (xT 4)), none), (.v (oNilc (xL 0)), none), (.v (oFaddr 0 (xL 0)), none), (.v (oLoad (xL 0)), none), (.v (oMov (xT 8)), none), (.v (oMov (xT 2)), none), (.v (oMov (xT 0)), none), (.v (oNilc (xL 0)), none), (.v (oFaddr 0 (xL 0)), none), (.v (oLoad (xL 0)), none), (.v (oMov (xT 8)), none), (.v (oIaddr 1 (xL 1) (xL 0)), none), (.v (oLoad (xL 0)), none), (.v (oMov (xT 10)), none), (.c (cVal (xL 8)) [(xL 1), (xL 0)], none), (.v (oMov (xT 9)), none), (.v (oNilc (xL 0)), none), (.v (oFaddr 0 (xL 0)), none), (.v (oLoad (xL 0)), none), (.v (oMov (xT 8)), none), (.v (oIaddr 1 (xL 1) (xL 0)), none), (.v (oLoad (xL 0)), none), (.v (oBin .and .no (xL 7) (xL 0)), none), (.v (oIaddr 1 (xL 19) (xL 18)), none), (.h (oStore 1 (xL 0) (xL 1)), none)] 0 [none, none, none, none, none, none, none, none, none, none, none] [(21, 10), (6, 10), (3, 10)])))))
 (kReg (sV (oBin .add .no (xT 6) (ki 1)) (sS 6 (xL 0) sEnd)))))))))
 (kSeq (kReg (sS 3 (xT 4) sEnd))
 kRet)))))
theorem t166 : FF d166 Tryz.f166 a166 [(.t 3)] := ff Tryz.func166 (by kernel_rfl)
def x166 : XFn := .go a166 3 pd8 [(.t 3)]
def d167 : FD := ⟨167, 2, [4]⟩
def a167 : CodeF := (kSeq (kReg (sS 2 (xK (int .u64 (.ofNat 0))) sEnd))
 (kSeq (kReg (sS 2 (xT 0) sEnd))
 kRet))
theorem t167 : FF d167 Tryz.f167 a167 [(.t 2)] := ff Tryz.func167 (by kernel_rfl)
def x167 : XFn := .go a167 2 pd1 [(.t 2)]
def d168 : FD := ⟨168, 3, [6, 8, 7]⟩
def a168 : CodeF := (kSeq (kReg (sS 3 (xK nils) sEnd))
 (kSeq (kReg (sC (cFn 116) [(xT 0)] (sS 5 (xL 0) sEnd)))
 (kSeq (kReg (sC (cVal (xT 2)) [(xT 1)] (sS 4 (xL 0) sEnd)))
 (kSeq (kBlock 0 (kLoop (kSeq (kRegC (fun k => (sV (oBin .gtr .no (xT 4) (xK (int .u64 (.ofNat 127)))) k)) (xL 0) kSkip
 (kExit 0))
 (kSeq (kBlock 1 (kReg (sV (oMov (xT 5)) (sV (oConv .u8 (xT 4)) (sV (oBin .or .no (xL 0) (xK (int .u8 (.ofNat 128)))) (sH (oBsl 5 1 1 [(int .u8 (.ofNat 0))] [(0, 1, (xL 0))]) (sH (oApp 5 1 (xL 3) (xL 0)) (sS 5 (xL 0) sEnd))))))))
 (kReg (sV (oMov (xT 4)) (sV (oBin .shr .no (xL 0) (xK (int .u64 (.ofNat 7)))) (sS 4 (xL 0) sEnd))))))))
 (kSeq (kReg (sV (oConv .u8 (xT 4)) (sH (oBsl 5 1 1 [(int .u8 (.ofNat 0))] [(0, 1, (xL 0))]) (sH (oApp 5 1 (xT 5) (xL 0)) (sC (cFn 132) [(xL 0)] (sS 3 (xL 0) sEnd))))))
 kRet)))))
theorem t168 : FF d168 Tryz.f168 a168 [(.t 3)] := ff Tryz.func168 (by kernel_rfl)
def x168 : XFn := .go a168 3 pd3 [(.t 3)]
def d169 : FD := ⟨169, 1, [2]⟩
def a169 : CodeF := (kSeq (kReg (sS 1 (xK (int .u64 (.ofNat 0))) sEnd))
 (kSeq (kReg (sS 1 (xT 0) sEnd))
 kRet))
theorem t169 : FF d169 Tryz.f169 a169 [(.t 1)] := ff Tryz.func169 (by kernel_rfl)
def x169 : XFn := .go a169 1 pd1 [(.t 1)]
def d170 : FD := ⟨170, 2, [4]⟩
def a170 : CodeF := (kSeq (kReg (sS 2 (xK nils) sEnd))
 (kSeq (kReg (sV (oLenS (xT 1)) (sV (oConv .u64 (xL 0)) (sC (cFn 80) [(xT 0), (xL 0)] (sH (oApps 5 (xL 0) (xT 1)) (sC (cFn 132) [(xL 0)] (sS 2 (xL 0) sEnd)))))))
 kRet))
theorem t170 : FF d170 Tryz.f170 a170 [(.t 2)] := ff Tryz.func170 (by kernel_rfl)
def x170 : XFn := .go a170 2 pd1 [(.t 2)]
def d171 : FD := ⟨171, 1, [2, 1]⟩
def a171 : CodeF := (kSeq (kReg (sH (oBox 38 1 (xT 0)) (sS 2 (xL 0) (sS 1 (xK nilfunc) sEnd))))
 (kSeq (kReg (sV (oMkfn 269 [] [(xT 2)]) (sS 1 (xL 0) sEnd)))
 kRet))
theorem t171 : FF d171 Tryz.f171 a171 [(.t 1)] := ff Tryz.func171 (by kernel_rfl)
def x171 : XFn := .go a171 1 pd2 [(.t 1)]
def d172 : FD := ⟨172, 1, [2, 10, 11, 12, 9, 5, 3, 26, 27, 28, 25, 8, 6]⟩
def a172 : CodeF := (kSeq (kReg (sS 1 (xK nils) sEnd))
 (kSeq (kReg (sS 7 (ki 0) sEnd))
 (kSeq (kSeq (kReg (sS 5 (xT 0) (sV (oLenL (xT 5)) (sS 2 (xL 0) (sS 3 (ki 0) sEnd)))))
 (kBlock 0 (kLoop (kSeq (kReg (sV (oBin .lss .no (xT 3) (xT 2)) (sS 4 (xL 0) sEnd)))
 (kSeq (kCond (xT 4) kSkip
 (kExit 0))
 (kSeq (kBlock 1 (kSeq (kReg (sV (oIaddr 1 (xT 5) (xT 3)) (sV (oLoad (xL 0)) (sS 6 (xL 0) sEnd))))
 (kSeq (kReg (sV (oMov (xT 7)) (sV (oLenL (xT 6)) (sV (oBin .add .no (xL 1) (xL 0)) (sS 7 (xL 0) sEnd)))))
 (kRegC (fun k => (sV (oBin .lss .no (xT 7) (ki 0)) k)) (xL 0) (kReg (sV (oMkif 9 (xK (str [108, 101, 110, 32, 111, 117, 116, 32, 111, 102, 32, 114, 97, 110, 103, 101]))) (sPan (xL 0))))
 kSkip))))
 (kReg (sV (oBin .add .no (xT 3) (ki 1)) (sS 3 (xL 0) sEnd)))))))))
 (kSeq (kReg (sC (cFn 271) [(xK nils), (xT 7)] (sS 13 (xL 0) sEnd)))
 (kSeq (kSeq (kReg (sS 11 (xT 0) (sV (oLenL (xT 11)) (sS 8 (xL 0) (sS 9 (ki 0) sEnd)))))
 (kBlock 2 (kLoop (kSeq (kReg (sV (oBin .lss .no (xT 9) (xT 8)) (sS 10 (xL 0) sEnd)))
 (kSeq (kCond (xT 10) kSkip
 (kExit 2))
 (kSeq (kBlock 3 (kSeq (kReg (sV (oIaddr 1 (xT 11) (xT 9)) (sV (oLoad (xL 0)) (sS 12 (xL 0) sEnd))))
 (kReg (sV (oMov (xT 13)) (sH (oApp 5 1 (xL 0) (xT 12)) (sS 13 (xL 0) sEnd))))))
 (kReg (sV (oBin .add .no (xT 9) (ki 1)) (sS 9 (xL 0) sEnd)))))))))
 (kSeq (kReg (sS 1 (xT 13) sEnd))
 kRet))))))
theorem t172 : FF d172 Tryz.f172 a172 [(.t 1)] := ff Tryz.func172 (by kernel_rfl)
def x172 : XFn := .go a172 1 pd13 [(.t 1)]
def d173 : FD := ⟨173, 1, [2]⟩
def a173 : CodeF := (kSeq (kReg (sS 1 (xK nils) sEnd))
 (kSeq (kReg (sV (oConv .u8 (xT 0)) (sV (oBin .shr .no (xT 0) (xK (int .u64 (.ofNat 8)))) (sV (oConv .u8 (xL 0)) (sV (oBin .shr .no (xT 0) (xK (int .u64 (.ofNat 16)))) (sV (oConv .u8 (xL 0)) (sV (oBin .shr .no (xT 0) (xK (int .u64 (.ofNat 24)))) (sV (oConv .u8 (xL 0)) (sH (oBsl 5 1 4 [(int .u8 (.ofNat 0))] [(0, 1, (xL 6)), (1, 1, (xL 4)), (2, 1, (xL 2)), (3, 1, (xL 0))]) (sS 1 (xL 0) sEnd))))))))))
 kRet))
theorem t173 : FF d173 Tryz.f173 a173 [(.t 1)] := ff Tryz.func173 (by kernel_rfl)
def x173 : XFn := .go a173 1 pd1 [(.t 1)]
def d174 : FD := ⟨174, 1, [2, 11, 12, 13, 10, 6, 17, 18, 19, 16, 8, 4, 3]⟩
def a174 : CodeF := (kSeq (kReg (sS 1 (xK (int .u32 (.ofNat 0))) sEnd))
 (kSeq (kReg (sC (cFn 272) [] (sH (oAlloc 371 16 [(int .u32 (.ofNat 0)), (int .u32 (.ofNat 0)), (int .u32 (.ofNat 0)), (int .u32 (.ofNat 0)), (int .u32 (.ofNat 0)), (int .u32 (.ofNat 0)), (int .u32 (.ofNat 0)), (int .u32 (.ofNat 0)), (int .u32 (.ofNat 0)), (int .u32 (.ofNat 0)), (int .u32 (.ofNat 0)), (int .u32 (.ofNat 0)), (int .u32 (.ofNat 0)), (int .u32 (.ofNat 0)), (int .u32 (.ofNat 0)), (int .u32 (.ofNat 0))]) (sS 13 (xL 0) (sH (oStore 16 (xT 13) (xL 1)) sEnd)))))
 (kSeq (kReg (sS 12 (xK (int .u32 (.ofNat 4294967295))) sEnd))
 (kSeq (kSeq (kReg (sS 5 (xT 0) (sV (oLenL (xT 5)) (sS 2 (xL 0) (sS 3 (ki 0) sEnd)))))
 (kBlock 0 (kLoop (kSeq (kReg (sV (oBin .lss .no (xT 3) (xT 2)) (sS 4 (xL 0) sEnd)))
 (kSeq (kCond (xT 4) kSkip
 (kExit 0))
 (kSeq (kBlock 1 (kSeq (kReg (sV (oIaddr 1 (xT 5) (xT 3)) (sV (oLoad (xL 0)) (sS 6 (xL 0) sEnd))))
 (kSeq (kReg (sS 10 (xT 6) (sV (oLenL (xT 10)) (sS 7 (xL 0) (sS 8 (ki 0) sEnd)))))
 (kBlock 2 (kLoop (kSeq (kReg (sV (oBin .lss .no (xT 8) (xT 7)) (sS 9 (xL 0) sEnd)))
 (kSeq (kCond (xT 9) kSkip
 (kExit 2))
 (kSeq (kBlock 3 (kSeq (kReg (sV (oIaddr 1 (xT 10) (xT 8)) (sV (oLoad (xL 0)) (sS 11 (xL 0) sEnd))))
 (kSeq (kReg (sV (oMov (xT 12)) (sV (oConv .u32 (xT 11)) (sV (oBin .xor .no (xL 1) (xL 0)) (sS 12 (xL 0) sEnd)))))
 (kSeq (kReg (sV (oMov (xT 12)) (sV (oBin .shr .no (xL 0) (xK (int .u64 (.ofNat 4)))) (sV (oMov (xT 12)) (sV (oBin .and .no (xL 0) (xK (int .u32 (.ofNat 15)))) (sV (oIaddra 16 1 (xT 13) (xL 0)) (sV (oLoad (xL 0)) (sV (oBin .xor .no (xL 4) (xL 0)) (sS 12 (xL 0) sEnd)))))))))
 (kReg (sV (oMov (xT 12)) (sV (oBin .shr .no (xL 0) (xK (int .u64 (.ofNat 4)))) (sV (oMov (xT 12)) (sV (oBin .and .no (xL 0) (xK (int .u32 (.ofNat 15)))) (sV (oIaddra 16 1 (xT 13) (xL 0)) (sV (oLoad (xL 0)) (sV (oBin .xor .no (xL 4) (xL 0)) (sS 12 (xL 0) sEnd)))))))))))))
 (kReg (sV (oBin .add .no (xT 8) (ki 1)) (sS 8 (xL 0) sEnd)))))))))))
 (kReg (sV (oBin .add .no (xT 3) (ki 1)) (sS 3 (xL 0) sEnd)))))))))
 (kSeq (kReg (sV (oUn .xor (xT 12)) (sS 1 (xL 0) sEnd)))
 kRet)))))
theorem t174 : FF d174 Tryz.f174 a174 [(.t 1)] := ff Tryz.func174 (by kernel_rfl)
def x174 : XFn := .go a174 1 pd13 [(.t 1)]
def d175 : FD := ⟨175, 2, [4, 7, 8, 9, 5]⟩
def a175 : CodeF := (kSeq (kReg (sS 2 (ki 0) sEnd))
 (kSeq (kSeq (kReg (sV (oLenL (xT 0)) (sS 3 (xL 0) (sS 4 (ki 0) sEnd))))
 (kBlock 0 (kLoop (kSeq (kReg (sV (oBin .lss .no (xT 4) (xT 3)) (sS 5 (xL 0) sEnd)))
 (kSeq (kCond (xT 5) kSkip
 (kExit 0))
 (kSeq (kBlock 1 (kSeq (kReg (sS 6 (xT 4) sEnd))
 (kRegC (fun k => (sV (oIaddr 1 (xT 0) (xT 6)) (sV (oLoad (xL 0)) (sC (cVal (xT 1)) [(xL 0)] k)))) (xL 0) (kSeq (kReg (sS 2 (xT 6) sEnd))
 kRet)
 kSkip)))
 (kReg (sV (oBin .add .no (xT 4) (ki 1)) (sS 4 (xL 0) sEnd)))))))))
 (kSeq (kReg (sS 2 (xK (int .i64 (.negSucc 0))) sEnd))
 kRet)))
theorem t175 : FF d175 Tryz.f175 a175 [(.t 2)] := ff Tryz.func175 (by kernel_rfl)
def x175 : XFn := .go a175 2 pd5 [(.t 2)]
def d176 : FD := ⟨176, 2, [4, 5, 3, 2, 6]⟩
def a176 : CodeF := (kSeq (kReg (sH (oBox 30 1 (xT 0)) (sS 5 (xL 0) (sH (oBox 9 1 (xT 1)) (sS 4 (xL 0) (sS 2 (ki 0) (sS 3 (xK (bool false)) sEnd)))))))
 (kSeq (kReg (sV (oFaddr 0 (xT 5)) (sV (oLoad (xL 0)) (sV (oMkfn 274 [] [(xT 4)]) (sC (cFn 273) [(xL 1), (xL 0)] (sS 6 (xL 0) sEnd))))))
 (kSeq (kReg (sV (oMm true (ki 0) [(xT 6)]) (sV (oBin .geq .no (xT 6) (ki 0)) (sS 2 (xL 1) (sS 3 (xL 0) sEnd)))))
 kRet)))
theorem t176 : FF d176 Tryz.f176 a176 [(.t 2), (.t 3)] := ff Tryz.func176 (by kernel_rfl)
def x176 : XFn := .go a176 2 pd5 [(.t 2), (.t 3)]
def d177 : FD := ⟨177, 1, [1]⟩
def a177 : CodeF := (kSeq (kReg (sS 1 (ki 0) sEnd))
 (kSeq (kReg (sV (oLoad (xT 0)) (sC (cFn 178) [(xL 0), (ki 81)] (sS 1 (xL 0) sEnd))))
 kRet))
theorem t177 : FF d177 Tryz.f177 a177 [(.t 1)] := ff Tryz.func177 (by kernel_rfl)
def x177 : XFn := .go a177 1 pd1 [(.t 1)]
def d178 : FD := ⟨178, 2, [4]⟩
def a178 : CodeF := (kSeq (kReg (sS 2 (ki 0) sEnd))
 (kSeq (kRegC (fun k => k) (xT 0) (kSeq (kReg (sS 2 (ki 0) sEnd))
 kRet)
 kSkip)
 (kSeq (kReg (sS 2 (xT 1) sEnd))
 kRet)))
theorem t178 : FF d178 Tryz.f178 a178 [(.t 2)] := ff Tryz.func178 (by kernel_rfl)
def x178 : XFn := .go a178 2 pd1 [(.t 2)]
def d179 : FD := ⟨179, 2, [2]⟩
def a179 : CodeF := (kSeq (kReg (sS 2 (ki 0) sEnd))
 (kSeq (kReg (sV (oLoadN 7 (xT 0)) (sV (oFaddr 1 (xT 1)) (sV (oLoad (xL 0)) (sV (oFaddr 2 (xT 1)) (sV (oLoad (xL 0)) (sC (cFn 180) [(xL 4), (xL 2), (xL 0)] (sC (cFn 178) [(xL 0), (ki 82)] (sS 2 (xL 0) sEnd)))))))))
 kRet))
theorem t179 : FF d179 Tryz.f179 a179 [(.t 2)] := ff Tryz.func179 (by kernel_rfl)
def x179 : XFn := .go a179 2 pd1 [(.t 2)]
def d180 : FD := ⟨180, 3, [6, 3, 8]⟩
def a180 : CodeF := (kSeq (kReg (sH (oBox 48 7 (xT 0)) (sS 4 (xL 0) (sS 3 (xK (bool false)) sEnd))))
 (kSeq (kSeq (kReg (sV (oFaddr 1 (xT 4)) (sV (oLoad (xL 0)) (sS 5 (xL 0) sEnd))))
 (kBlock 0 (kRegC (fun k => (sV (oBin .eql .no (xT 5) (ki 3)) k)) (xL 0) (kSeq (kReg (sV (oBin .eql .no (xT 1) (xK (str []))) (sG (xL 0) true (sV (oMov (xT 2))) (sG (xL 1) true (sV (oLenL (xL 0))) (sG (xL 2) true (sV (oBin .eql .no (xL 0) (ki 1))) (sV (oPick (xL 3) (xL 0) (xK (bool false))) (sS 3 (xL 0) sEnd)))))))
 kRet)
 (kRegC (fun k => (sV (oBin .eql .no (xT 5) (ki 5)) k)) (xL 0) (kSeq (kReg (sV (oBin .eql .no (xT 1) (xK (str []))) (sG (xL 0) true (sV (oMov (xT 2))) (sG (xL 1) true (sV (oLenL (xL 0))) (sG (xL 2) true (sV (oFaddr 4 (xT 4))) (sG (xL 3) true (sV (oLoad (xL 0))) (sG (xL 4) true (sV (oBin .eql .no (xL 2) (xL 0))) (sV (oPick (xL 5) (xL 0) (xK (bool false))) (sS 3 (xL 0) sEnd)))))))))
 kRet)
 kSkip))))
 (kSeq (kReg (sV (oLenL (xT 2)) (sV (oBin .eql .no (xL 0) (ki 0)) (sS 3 (xL 0) sEnd))))
 kRet)))
theorem t180 : FF d180 Tryz.f180 a180 [(.t 3)] := ff Tryz.func180 (by kernel_rfl)
def x180 : XFn := .go a180 3 pd3 [(.t 3)]
def d181 : FD := ⟨181, 3, [3]⟩
def a181 : CodeF := (kSeq (kReg (sS 3 (ki 0) sEnd))
 (kSeq (kReg (sV (oFaddr 5 (xT 0)) (sV (oLoad (xL 0)) (sG (xL 0) false (sV (oLoad (xT 1))) (sG (xL 1) false (sV (oLoad (xT 2))) (sG (xL 2) false (sV (oIaddr 1 (xL 1) (xL 0))) (sG (xL 3) false (sV (oLoad (xL 0))) (sG (xL 4) false (sV (oBin .eql .no (xL 0) (ki 0))) (sV (oPick (xL 5) (xK (bool true)) (xL 0)) (sC (cFn 178) [(xL 0), (ki 84)] (sS 3 (xL 0) sEnd)))))))))))
 kRet))
theorem t181 : FF d181 Tryz.f181 a181 [(.t 3)] := ff Tryz.func181 (by kernel_rfl)
def x181 : XFn := .go a181 3 pd1 [(.t 3)]
def d182 : FD := ⟨182, 5, [5]⟩
def a182 : CodeF := (kSeq (kReg (sS 5 (ki 0) sEnd))
 (kSeq (kDraw [(.v (oLoadN 7 (xT 0)), none), (.v (oLoadN 3 (xT 1)), none), (.v (oLoad (xT 3)), none), (.v (oLoad (xT 4)), none), (.v (oIaddr 1 (xL 1) (xL 0)), none), (.c (cFn 183) [(xL 4), (xL 3), (xT 2), (xL 0)], none), (.c (cFn 178) [(xL 0), (ki 83)], none), (.v (oMov (xL 0)), none)] 0 [none, none, none, none, none, (some 0)] [])
 kRet))
theorem t182 : FF d182 Tryz.f182 a182 [(.t 5)] := ff Tryz.func182 (by kernel_rfl)
def x182 : XFn := .go a182 5 pd1 [(.t 5)]
def d183 : FD := ⟨183, 4, [8, 4, 14, 5, 9, 10, 11, 12]⟩
def a183 : CodeF := (kSeq (kReg (sH (oBox 48 7 (xT 0)) (sS 5 (xL 0) (sH (oBox 81 3 (xT 1)) (sS 7 (xL 0) (sS 4 (xK (bool false)) sEnd))))))
 (kSeq (kSeq (kReg (sV (oFaddr 1 (xT 5)) (sV (oLoad (xL 0)) (sS 6 (xL 0) sEnd))))
 (kBlock 0 (kRegC (fun k => (sV (oBin .eql .no (xT 6) (ki 1)) k)) (xL 0) (kSeq (kReg (sV (oFaddr 2 (xT 5)) (sV (oLoad (xL 0)) (sV (oFaddr 1 (xT 7)) (sV (oLoad (xL 0)) (sC (cFn 275) [(xL 2), (xL 0)] (sV (oExt 0 (xL 0)) (sV (oExt 1 (xL 1)) (sS 8 (xL 1) (sS 9 (xL 0) sEnd))))))))))
 (kSeq (kReg (sV (oNilc (xT 3)) (sV (oLoad (xL 0)) (sV (oLenL (xT 8)) (sV (oBin .add .no (xL 1) (xL 0)) (sV (oNilc (xT 3)) (sH (oStore 1 (xL 0) (xL 1)) sEnd)))))))
 (kSeq (kReg (sV (oFaddr 1 (xT 7)) (sV (oLoad (xL 0)) (sV (oNilc (xT 2)) (sV (oFaddr 1 (xL 0)) (sH (oStore 1 (xL 0) (xL 2)) sEnd))))))
 (kSeq (kReg (sV (oBin .eql .no (xT 9) (ki 0)) (sG (xL 0) true (sV (oMov (xT 3))) (sG (xL 1) true (sV (oNilc (xL 0))) (sG (xL 2) true (sV (oLoad (xL 0))) (sG (xL 3) true (sV (oBin .leq .no (xL 0) (ki 4096))) (sV (oPick (xL 4) (xL 0) (xK (bool false))) (sS 4 (xL 0) sEnd))))))))
 kRet))))
 (kRegC (fun k => (sV (oBin .eql .no (xT 6) (ki 2)) k)) (xL 0) (kSeq (kReg (sV (oFaddr 1 (xT 7)) (sV (oLoad (xL 0)) (sV (oNilc (xT 2)) (sV (oFaddr 1 (xL 0)) (sH (oStore 1 (xL 0) (xL 2)) sEnd))))))
 (kSeq (kReg (sV (oFaddr 1 (xT 7)) (sV (oLoad (xL 0)) (sV (oLenS (xL 0)) (sV (oBin .leq .no (xL 0) (ki 256)) (sS 4 (xL 0) sEnd))))))
 kRet))
 (kRegC (fun k => (sV (oBin .eql .no (xT 6) (ki 4)) k)) (xL 0) (kSeq (kReg (sV (oFaddr 1 (xT 7)) (sV (oLoad (xL 0)) (sV (oFaddr 3 (xT 5)) (sV (oLoad (xL 0)) (sC (cFn 276) [(xL 2), (xL 0)] (sV (oExt 0 (xL 0)) (sV (oExt 1 (xL 1)) (sS 10 (xL 1) (sS 11 (xL 0) sEnd))))))))))
 (kSeq (kReg (sH (oBsl 2 1 1 [(int .i64 (.ofNat 0))] [(0, 1, (xT 10))]) (sV (oNilc (xT 2)) (sV (oFaddr 2 (xL 0)) (sH (oStore 1 (xL 0) (xL 2)) sEnd)))))
 (kSeq (kReg (sV (oBin .eql .no (xT 11) (ki 0)) (sS 4 (xL 0) sEnd)))
 kRet)))
 kSkip)))))
 (kSeq (kReg (sV (oFaddr 2 (xT 7)) (sV (oLoad (xL 0)) (sC (cFn 185) [(xL 0)] (sV (oNilc (xT 2)) (sV (oFaddr 2 (xL 0)) (sH (oStore 1 (xL 0) (xL 2)) sEnd)))))))
 (kSeq (kReg (sS 4 (xK (bool true)) sEnd))
 kRet))))
theorem t183 : FF d183 Tryz.f183 a183 [(.t 4)] := ff Tryz.func183 (by kernel_rfl)
def x183 : XFn := .go a183 4 pd8 [(.t 4)]
def d184 : FD := ⟨184, 1, [2]⟩
def a184 : CodeF := (kSeq (kReg (sS 1 (xK nils) sEnd))
 (kSeq (kReg (sV (oLenL (xT 0)) (sV (oLenL (xT 0)) (sV (oSlc 1 (xT 0) none (some (xL 1)) (some (xL 0))) (sS 1 (xL 0) sEnd)))))
 kRet))
theorem t184 : FF d184 Tryz.f184 a184 [(.t 1)] := ff Tryz.func184 (by kernel_rfl)
def x184 : XFn := .go a184 1 pd1 [(.t 1)]
end
end Go.Proofs.YtnljeinfkkeofaaGreatDoor
