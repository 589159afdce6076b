import Derived.Test.YtobnfiiladkllaaGreatDoorP
import Derived.Test.YtobnfiiladkllaaGreatDoorProg
import Derived.KernelRfl
/- The functions of the program as the interpreter has them; each is the program's, by the kernel. -/
set_option maxRecDepth 1000000
namespace Go.Proofs.YtobnfiiladkllaaGreatDoor
open Go Go.Ai AVal
noncomputable section
def d114 : FD := ⟨114, 2, [4]⟩
def a114 : CodeF := (kSeq (kReg (sS 2 (xK nils) sEnd))
 (kSeq (kRegC (fun k => (sV (oBin .neq .no (xT 1) (ki 0)) k)) (xL 0) (kReg (sV (oBuild [(int .i64 (.ofNat 0))] [(0, 1, (xT 1))]) (sV (oMkif 201 (xL 0)) (sPan (xL 0)))))
 kSkip)
 (kSeq (kReg (sS 2 (xT 0) sEnd))
 kRet)))
theorem t114 : FF d114 Tryz.f114 a114 [(.t 2)] := ff Tryz.func114 (by kernel_rfl)
def x114 : XFn := .go a114 2 pd1 [(.t 2)]
def d115 : FD := ⟨115, 2, [4, 5, 8, 6, 7, 49, 9, 10, 58, 59, 60, 11, 69, 70, 71, 68, 14, 12]⟩
def a115 : CodeF := (kSeq (kReg (sS 2 (xK nils) (sS 3 (ki 0) sEnd)))
 (kSeq (kRegC (fun k => (sV (oLenL (xT 1)) (sV (oBin .gtr .no (xL 0) (ki 16777216)) k))) (xL 0) (kSeq (kReg (sS 2 (xK nils) (sS 3 (ki 3) sEnd)))
 kRet)
 kSkip)
 (kSeq (kReg (sC (cFn 181) [(xT 1)] (sV (oExt 0 (xL 0)) (sV (oExt 1 (xL 1)) (sS 5 (xL 1) (sS 6 (xL 0) sEnd))))))
 (kSeq (kReg (sV (oLenL (xT 1)) (sV (oBin .sub .no (xL 0) (ki 4)) (sS 4 (xL 0) sEnd))))
 (kSeq (kSeq (kDraw [(.v (oMov (xT 6)), none), (.v (oUn .not (xL 0)), none), (.v (oMov (xL 0)), none), (.v (oMov (xT 5)), (some ((xL 0), false))), (.v (oMov (xT 0)), (some ((xL 1), false))), (.v (oBin .neq .no (xL 1) (xL 0)), (some ((xL 2), false))), (.v (oPick (xL 3) (xK (bool true)) (xL 0)), none), (.v (oMov (xL 0)), none), (.v (oMov (xT 4)), (some ((xL 0), false))), (.v (oBin .lss .no (xL 0) (ki 4)), (some ((xL 1), false))), (.v (oPick (xL 2) (xK (bool true)) (xL 0)), none), (.v (oMov (xL 0)), none), (.v (oMov (xT 1)), (some ((xL 0), false))), (.v (oMov (xT 4)), (some ((xL 1), false))), (.v (oSlc 1 (xL 1) (some (xL 0)) none none), (some ((xL 2), false))), (.v (oMov (xT 1)), (some ((xL 3), false))), (.v (oMov (xT 4)), (some ((xL 4), false))), (.v (oSlc 1 (xL 1) none (some (xL 0)) none), (some ((xL 5), false))), (.h (oBsl 137 1 1 [nils] [(0, 1, (xL 0))]), (some ((xL 6), false))), (.c (cFn 184) [(xL 0)], (some ((xL 7), false))), (.c (cFn 183) [(xL 0)], (some ((xL 8), false))), (.c (cFn 182) [(xL 6), (xL 0)], (some ((xL 9), false))), (.v (oUn .not (xL 0)), (some ((xL 10), false))), (.v (oPick (xL 11) (xK (bool true)) (xL 0)), none)] 0 [none, none, none, none, none, none, none, (some 0), none, none, none, none, none, none, none, none, none, none, none, none] [])
 (kCond (xT 7) (kSeq (kReg (sS 2 (xK nils) (sS 3 (ki 20) sEnd)))
 kRet)
 kSkip))
 (kSeq (kReg (sV (oSlc 1 (xT 1) (some (ki 4)) (some (xT 4)) none) (sC (cFn 116) [(xL 0)] (sS 8 (xL 0) sEnd))))
 (kSeq (kReg (sC (cFn 117) [(xT 8), (ki 1024)] (sH (oMksl 3 1 [(int .i64 (.ofNat 0))] (xL 0) (xL 0)) (sS 9 (xL 0) sEnd))))
 (kSeq (kSeq (kReg (sV (oLenL (xT 9)) (sS 10 (xL 0) (sS 11 (ki 0) sEnd))))
 (kBlock 0 (kLoop (kSeq (kReg (sV (oBin .lss .no (xT 11) (xT 10)) (sS 12 (xL 0) sEnd)))
 (kSeq (kCond (xT 12) kSkip
 (kExit 0))
 (kSeq (kBlock 1 (kSeq (kReg (sS 13 (xT 11) sEnd))
 (kReg (sC (cFn 117) [(xT 8), (ki 16777216)] (sV (oIaddr 1 (xT 9) (xT 13)) (sH (oStore 1 (xL 0) (xL 1)) sEnd))))))
 (kReg (sV (oBin .add .no (xT 11) (ki 1)) (sS 11 (xL 0) sEnd)))))))))
 (kSeq (kReg (sS 19 (xK nils) sEnd))
 (kSeq (kSeq (kReg (sS 17 (xT 9) (sV (oLenL (xT 17)) (sS 14 (xL 0) (sS 15 (ki 0) sEnd)))))
 (kBlock 2 (kLoop (kSeq (kReg (sV (oBin .lss .no (xT 15) (xT 14)) (sS 16 (xL 0) sEnd)))
 (kSeq (kCond (xT 16) kSkip
 (kExit 2))
 (kSeq (kBlock 3 (kSeq (kReg (sV (oIaddr 1 (xT 17) (xT 15)) (sV (oLoad (xL 0)) (sS 18 (xL 0) sEnd))))
 (kReg (sV (oMov (xT 19)) (sC (cFn 119) [(xT 8), (xT 18)] (sH (oBsl 137 1 1 [nils] [(0, 1, (xL 0))]) (sH (oApp 137 1 (xL 2) (xL 0)) (sS 19 (xL 0) sEnd))))))))
 (kReg (sV (oBin .add .no (xT 15) (ki 1)) (sS 15 (xL 0) sEnd)))))))))
 (kSeq (kRegC (fun k => (sC (cFn 185) [(xT 8)] (sV (oBin .neq .no (xL 0) (ki 0)) k))) (xL 0) (kSeq (kReg (sS 2 (xK nils) (sS 3 (ki 20) sEnd)))
 kRet)
 kSkip)
 (kSeq (kReg (sC (cFn 186) [(xT 19)] (sS 2 (xL 0) (sS 3 (ki 0) sEnd))))
 kRet))))))))))))
theorem t115 : FF d115 Tryz.f115 a115 [(.t 2), (.t 3)] := ff Tryz.func115 (by kernel_rfl)
def x115 : XFn := .go a115 2 pd18 [(.t 2), (.t 3)]
def d116 : FD := ⟨116, 1, [2]⟩
def a116 : CodeF := (kSeq (kReg (sS 1 (xK nilptr) sEnd))
 (kSeq (kReg (sC (cFn 123) [(xT 0)] (sV (oBuild [nils, (int .i64 (.ofNat 0)), (int .i64 (.ofNat 0))] [(0, 1, (xL 0))]) (sH (oBox 320 3 (xL 0)) (sS 1 (xL 0) sEnd)))))
 kRet))
theorem t116 : FF d116 Tryz.f116 a116 [(.t 1)] := ff Tryz.func116 (by kernel_rfl)
def x116 : XFn := .go a116 1 pd1 [(.t 1)]
def d117 : FD := ⟨117, 2, [4, 3, 2]⟩
def a117 : CodeF := (kSeq (kReg (sH (oBox 233 1 (xT 0)) (sS 4 (xL 0) (sH (oBox 3 1 (xT 1)) (sS 3 (xL 0) (sS 2 (ki 0) sEnd))))))
 (kSeq (kReg (sV (oLoad (xT 4)) (sV (oMkfn 188 [] [(xT 4), (xT 3)]) (sC (cFn 187) [(xL 1), (xL 0)] (sS 2 (xL 0) sEnd)))))
 kRet))
theorem t117 : FF d117 Tryz.f117 a117 [(.t 2)] := ff Tryz.func117 (by kernel_rfl)
def x117 : XFn := .go a117 2 pd3 [(.t 2)]
def d118 : FD := ⟨118, 2, [4, 5, 6, 7, 8, 11, 9, 12, 13, 84, 86, 87, 88, 85, 15, 10, 16]⟩
def a118 : CodeF := (kSeq (kReg (sS 2 (xK nils) (sS 3 (ki 0) (sS 4 (ki 0) sEnd))))
 (kSeq (kRegC (fun k => (sV (oBin .lss .no (xT 1) (ki 0)) (sG (xL 0) false (sV (oMov (xT 1))) (sG (xL 1) false (sV (oBin .gtr .no (xL 0) (ki 1048576))) (sV (oPick (xL 2) (xK (bool true)) (xL 0)) k))))) (xL 0) (kSeq (kReg (sS 2 (xK nils) (sS 3 (ki 0) (sS 4 (ki 1) sEnd))))
 kRet)
 kSkip)
 (kSeq (kReg (sS 5 (xK nils) sEnd))
 (kSeq (kReg (sC (cFn 116) [(xT 0)] (sS 6 (xL 0) sEnd)))
 (kSeq (kBlock 0 (kLoop (kSeq (kRegC (fun k => (sV (oLenL (xT 5)) (sV (oBin .lss .no (xL 0) (xT 1)) k))) (xL 0) kSkip
 (kExit 0))
 (kBlock 1 (kSeq (kReg (sV (oLenL (xT 5)) (sV (oBin .sub .no (xT 1) (xL 0)) (sV (oMm false (xL 0) [(ki 128)]) (sS 8 (xL 0) sEnd)))))
 (kSeq (kReg (sC (cFn 163) [(xT 6)] (sS 17 (xL 0) sEnd)))
 (kSeq (kReg (sC (cFn 119) [(xT 6), (ki 1)] (sS 7 (xL 0) sEnd)))
 (kSeq (kRegC (fun k => (sC (cFn 122) [(xT 6)] (sV (oBin .neq .no (xL 0) (ki 0)) (sG (xL 0) false (sV (oMov (xT 7))) (sG (xL 1) false (sV (oIaddr 1 (xL 0) (ki 0))) (sG (xL 2) false (sV (oLoad (xL 0))) (sG (xL 3) false (sV (oBin .gtr .no (xL 0) (xK (int .u8 (.ofNat 64))))) (sV (oPick (xL 4) (xK (bool true)) (xL 0)) k)))))))) (xL 0) (kSeq (kReg (sS 2 (xK nils) (sS 3 (ki 0) (sS 4 (ki 20) sEnd))))
 kRet)
 kSkip)
 (kSeq (kDraw [(.v (oMov (xT 6)), none), (.v (oMov (xT 7)), none), (.v (oIaddr 1 (xL 0) (ki 0)), none), (.v (oLoad (xL 0)), none), (.v (oConv .i64 (xL 0)), none), (.v (oMov (xT 8)), none), (.c (cFn 191) [(xL 1), (xL 0)], none), (.c (cFn 119) [(xL 6), (xL 0)], none), (.v (oMov (xT 7)), none), (.v (oIaddr 1 (xL 0) (ki 0)), none), (.v (oLoad (xL 0)), none), (.v (oConv .i64 (xL 0)), none), (.v (oMov (xT 8)), none), (.c (cFn 190) [(xL 5), (xL 1), (xL 0)], none), (.v (oMov (xL 0)), none), (.v (oExt 0 (xL 0)), none), (.v (oExt 1 (xL 1)), none), (.v (oMov (xL 1)), none), (.v (oMov (xL 1)), none)] 0 [none, none, none, none, none, none, none, none, none, (some 1), (some 0), none, none, none, none, none, none, none, none] [(8, 12), (8, 11)])
 (kSeq (kSeq (kDraw [(.v (oMov (xT 6)), none), (.c (cFn 122) [(xL 0)], none), (.v (oBin .neq .no (xL 0) (ki 0)), none), (.v (oMov (xL 0)), none), (.v (oMov (xT 10)), (some ((xL 0), false))), (.v (oBin .neq .no (xL 0) (ki 0)), (some ((xL 1), false))), (.v (oPick (xL 2) (xK (bool true)) (xL 0)), none), (.v (oMov (xL 0)), none), (.v (oMov (xT 9)), (some ((xL 0), false))), (.c (cFn 192) [(xL 0)], (some ((xL 1), false))), (.v (oMov (xT 7)), (some ((xL 2), false))), (.v (oIaddr 1 (xL 0) (ki 0)), (some ((xL 3), false))), (.v (oLoad (xL 0)), (some ((xL 4), false))), (.v (oConv .i64 (xL 0)), (some ((xL 5), false))), (.v (oBin .neq .no (xL 4) (xL 0)), (some ((xL 6), false))), (.v (oPick (xL 7) (xK (bool true)) (xL 0)), none), (.v (oMov (xL 0)), none), (.v (oMov (xT 9)), (some ((xL 0), false))), (.c (cFn 193) [(xL 0)], (some ((xL 1), false))), (.v (oBin .neq .no (xL 0) (xK (int .u64 (.ofNat 0)))), (some ((xL 2), false))), (.v (oPick (xL 3) (xK (bool true)) (xL 0)), none)] 0 [none, none, none, none, none, none, none, none, none, none, none, (some 0), none, none, none, none, none, none, none] [(8, 11)])
 (kCond (xT 11) (kSeq (kReg (sS 2 (xK nils) (sS 3 (ki 0) (sS 4 (ki 20) sEnd))))
 kRet)
 kSkip))
 (kSeq (kReg (sS 15 (xT 9) (sV (oLenL (xT 15)) (sS 12 (xL 0) (sS 13 (ki 0) sEnd)))))
 (kBlock 2 (kLoop (kSeq (kReg (sV (oBin .lss .no (xT 13) (xT 12)) (sS 14 (xL 0) sEnd)))
 (kSeq (kCond (xT 14) kSkip
 (kExit 2))
 (kSeq (kBlock 3 (kSeq (kReg (sV (oIaddr 1 (xT 15) (xT 13)) (sV (oLoad (xL 0)) (sS 16 (xL 0) sEnd))))
 (kSeq (kReg (sV (oConv .u64 (xT 17)) (sV (oBin .add .no (xL 0) (xT 16)) (sV (oConv .i64 (xL 0)) (sS 18 (xL 0) sEnd)))))
 (kSeq (kRegC (fun k => (sV (oBin .lss .no (xT 18) (xT 17)) k)) (xL 0) (kSeq (kReg (sS 2 (xK nils) (sS 3 (ki 0) (sS 4 (ki 20) sEnd))))
 kRet)
 kSkip)
 (kReg (sV (oMov (xT 5)) (sH (oBsl 2 1 1 [(int .i64 (.ofNat 0))] [(0, 1, (xT 18))]) (sH (oApp 2 1 (xL 1) (xL 0)) (sS 5 (xL 0) sEnd)))))))))
 (kReg (sV (oBin .add .no (xT 13) (ki 1)) (sS 13 (xL 0) sEnd)))))))))))))))))))
 (kSeq (kReg (sC (cFn 165) [(xT 5)] (sV (oLenL (xT 0)) (sC (cFn 120) [(xT 6)] (sV (oBin .sub .no (xL 1) (xL 0)) (sS 2 (xL 3) (sS 3 (xL 0) (sS 4 (ki 0) sEnd))))))))
 kRet))))))
theorem t118 : FF d118 Tryz.f118 a118 [(.t 2), (.t 3), (.t 4)] := ff Tryz.func118 (by kernel_rfl)
def x118 : XFn := .go a118 2 pd17 [(.t 2), (.t 3), (.t 4)]
def d119 : FD := ⟨119, 2, [4, 3]⟩
def a119 : CodeF := (kSeq (kReg (sH (oBox 3 1 (xT 1)) (sS 3 (xL 0) (sS 2 (xK nils) sEnd))))
 (kSeq (kReg (sV (oMkfn 195 [] [(xT 3)]) (sC (cFn 194) [(xT 0), (xL 0)] (sS 2 (xL 0) sEnd))))
 kRet))
theorem t119 : FF d119 Tryz.f119 a119 [(.t 2)] := ff Tryz.func119 (by kernel_rfl)
def x119 : XFn := .go a119 2 pd2 [(.t 2)]
def d120 : FD := ⟨120, 1, [2]⟩
def a120 : CodeF := (kSeq (kReg (sS 1 (ki 0) sEnd))
 (kSeq (kRegC (fun k => (sV (oBin .eql .ptr (xT 0) (xK nilptr)) k)) (xL 0) (kSeq (kReg (sS 1 (ki 0) sEnd))
 kRet)
 kSkip)
 (kSeq (kDraw [(.v (oMov (xT 0)), none), (.v (oNilc (xL 0)), none), (.v (oFaddr 0 (xL 0)), none), (.v (oLoad (xL 0)), none), (.v (oLenL (xL 0)), none), (.v (oMov (xT 0)), none), (.v (oNilc (xL 0)), none), (.v (oFaddr 1 (xL 0)), none), (.v (oLoad (xL 0)), none), (.v (oBin .sub .no (xL 4) (xL 0)), none), (.v (oMov (xL 0)), none)] 0 [none, (some 0)] [])
 kRet)))
theorem t120 : FF d120 Tryz.f120 a120 [(.t 1)] := ff Tryz.func120 (by kernel_rfl)
def x120 : XFn := .go a120 1 pd1 [(.t 1)]
def d121 : FD := ⟨121, 2, [4]⟩
def a121 : CodeF := (kSeq (kReg (sS 2 (xK nils) sEnd))
 (kSeq (kRegC (fun k => (sV (oBin .neq .no (xT 1) (ki 0)) k)) (xL 0) (kReg (sV (oBuild [(int .i64 (.ofNat 0))] [(0, 1, (xT 1))]) (sV (oMkif 201 (xL 0)) (sPan (xL 0)))))
 kSkip)
 (kSeq (kReg (sS 2 (xT 0) sEnd))
 kRet)))
theorem t121 : FF d121 Tryz.f121 a121 [(.t 2)] := ff Tryz.func121 (by kernel_rfl)
def x121 : XFn := .go a121 2 pd1 [(.t 2)]
def d122 : FD := ⟨122, 1, [2]⟩
def a122 : CodeF := (kSeq (kReg (sS 1 (ki 0) sEnd))
 (kSeq (kRegC (fun k => (sV (oBin .eql .ptr (xT 0) (xK nilptr)) k)) (xL 0) (kSeq (kReg (sS 1 (ki 20) sEnd))
 kRet)
 kSkip)
 (kSeq (kReg (sV (oNilc (xT 0)) (sV (oFaddr 2 (xL 0)) (sV (oLoad (xL 0)) (sS 1 (xL 0) sEnd)))))
 kRet)))
theorem t122 : FF d122 Tryz.f122 a122 [(.t 1)] := ff Tryz.func122 (by kernel_rfl)
def x122 : XFn := .go a122 1 pd1 [(.t 1)]
def d123 : FD := ⟨123, 1, [2]⟩
def a123 : CodeF := (kSeq (kReg (sS 1 (xK nils) sEnd))
 (kSeq (kRegC (fun k => (sV (oBin .eql .slice (xT 0) (xK nils)) k)) (xL 0) (kSeq (kReg (sS 1 (xK nils) sEnd))
 kRet)
 kSkip)
 (kSeq (kReg (sH (oBsl 5 1 0 [(int .u8 (.ofNat 0))] []) (sH (oApp 5 1 (xL 0) (xT 0)) (sS 1 (xL 0) sEnd))))
 kRet)))
theorem t123 : FF d123 Tryz.f123 a123 [(.t 1)] := ff Tryz.func123 (by kernel_rfl)
def x123 : XFn := .go a123 1 pd1 [(.t 1)]
def d124 : FD := ⟨124, 2, [4]⟩
def a124 : CodeF := (kSeq (kReg (sS 2 (xK nilptr) sEnd))
 (kSeq (kRegC (fun k => (sV (oBin .neq .no (xT 1) (ki 0)) k)) (xL 0) (kReg (sV (oBuild [(int .i64 (.ofNat 0))] [(0, 1, (xT 1))]) (sV (oMkif 201 (xL 0)) (sPan (xL 0)))))
 kSkip)
 (kSeq (kReg (sS 2 (xT 0) sEnd))
 kRet)))
theorem t124 : FF d124 Tryz.f124 a124 [(.t 2)] := ff Tryz.func124 (by kernel_rfl)
def x124 : XFn := .go a124 2 pd1 [(.t 2)]
def d125 : FD := ⟨125, 1, [2, 3, 4, 5, 34, 35, 36, 6, 8, 7, 9, 92, 93, 94, 10, 11, 116, 117, 118, 129, 130, 131, 128, 14, 135, 136, 137, 12, 16]⟩
def a125 : CodeF := (kSeq (kReg (sH (oAlloc 138 1 [nilptr]) (sS 1 (xL 0) (sH (oAlloc 27 1 [(int .i64 (.ofNat 0))]) (sS 2 (xL 0) sEnd)))))
 (kSeq (kReg (sV (oMkfn 197 [] [(xT 1), (xT 2)]) (sDef (xL 0) [] sEnd)))
 (kSeq (kReg (sC (cFn 116) [(xT 0)] (sS 3 (xL 0) sEnd)))
 (kSeq (kReg (sC (cFn 117) [(xT 3), (ki 16384)] (sV (oBuild [nils, (int .i64 (.ofNat 0))] [(1, 1, (xL 0))]) (sH (oBox 195 2 (xL 0)) (sH (oStore 1 (xT 1) (xL 0)) sEnd)))))
 (kSeq (kReg (sV (oLoad (xT 1)) (sV (oNilc (xL 0)) (sV (oFaddr 1 (xL 0)) (sV (oLoad (xL 0)) (sC (cFn 117) [(xT 3), (xL 0)] (sS 4 (xL 0) sEnd)))))))
 (kSeq (kReg (sC (cFn 164) [(xT 3), (xK (bool true))] sEnd))
 (kSeq (kDraw [(.v (oMov (xT 4)), none), (.h (oMksl 3 1 [(int .i64 (.ofNat 0))] (xL 0) (xL 0)), none), (.v (oMov (ki 0)), none), (.v (oMov (xL 1)), none)] 0 [none, none, none, none, none, none, none, none, (some 1), none, (some 0), none, none, none, none, none, none, none, none, none, none, none, none, none, none, none, none, none, none, none] [])
 (kSeq (kSeq (kReg (sS 5 (xT 4) (sS 6 (ki 0) sEnd)))
 (kBlock 0 (kLoop (kSeq (kReg (sV (oBin .lss .no (xT 6) (xT 5)) (sS 7 (xL 0) sEnd)))
 (kSeq (kCond (xT 7) kSkip
 (kExit 0))
 (kSeq (kBlock 1 (kSeq (kReg (sS 9 (xT 6) sEnd))
 (kSeq (kReg (sC (cFn 117) [(xT 3), (ki 16384)] (sV (oBin .add .no (xT 8) (xL 0)) (sV (oBuild [(int .i64 (.ofNat 0)), (int .i64 (.ofNat 0)), nils] [(0, 1, (xT 8)), (1, 1, (xL 0))]) (sH (oAlloc 193 3 [(int .i64 (.ofNat 0)), (int .i64 (.ofNat 0)), nils]) (sS 11 (xL 0) (sH (oStore 3 (xT 11) (xL 1)) sEnd)))))))
 (kSeq (kReg (sV (oLenL (xT 0)) (sC (cFn 117) [(xT 3), (xL 0)] (sV (oIaddr 1 (xT 10) (xT 9)) (sH (oStore 1 (xL 0) (xL 1)) sEnd)))))
 (kSeq (kDraw [(.v (oMov (xT 3)), none), (.v (oFaddr 1 (xT 11)), none), (.v (oLoad (xL 0)), none), (.v (oFaddr 0 (xT 11)), none), (.v (oLoad (xL 0)), none), (.v (oBin .gtr .no (xL 2) (xL 0)), none), (.v (oMov (xL 0)), none), (.v (oFaddr 1 (xT 11)), (some ((xL 0), true))), (.v (oLoad (xL 0)), (some ((xL 1), true))), (.v (oLoad (xT 1)), (some ((xL 2), true))), (.v (oNilc (xL 0)), (some ((xL 3), true))), (.v (oFaddr 1 (xL 0)), (some ((xL 4), true))), (.v (oLoad (xL 0)), (some ((xL 5), true))), (.v (oBin .leq .no (xL 4) (xL 0)), (some ((xL 6), true))), (.v (oPick (xL 7) (xL 0) (xK (bool false))), none), (.c (cFn 164) [(xL 14), (xL 0)], none)] 0 [none, none, none, none, none, none, none, none, none, none, none, none, none, none, none, none, none, none, none, none, none, none, none, none, none, none, none, none, none, none] [])
 (kSeq (kDraw [(.v (oLoad (xT 1)), none), (.v (oLoad (xT 1)), none), (.v (oNilc (xL 0)), none), (.v (oFaddr 0 (xL 0)), none), (.v (oLoad (xL 0)), none), (.v (oLoadN 3 (xT 11)), none), (.h (oBsl 193 3 1 [(int .i64 (.ofNat 0)), (int .i64 (.ofNat 0)), nils] [(0, 3, (xL 0))]), none), (.h (oApp 193 3 (xL 2) (xL 0)), none), (.v (oNilc (xL 7)), none), (.v (oFaddr 0 (xL 0)), none), (.h (oStore 1 (xL 0) (xL 2)), none)] 0 [none, none, none, none, none, none, none, none, none, none, none, none, none, none, none, none, none, none, none, none, none, none, none, none, none, none, none, none, none, none] [(10, 4), (10, 3), (9, 4), (6, 4)])
 (kReg (sV (oFaddr 1 (xT 11)) (sV (oLoad (xL 0)) (sS 8 (xL 0) sEnd))))))))))
 (kReg (sV (oBin .add .no (xT 6) (ki 1)) (sS 6 (xL 0) sEnd)))))))))
 (kSeq (kReg (sV (oLoad (xT 1)) (sV (oNilc (xL 0)) (sV (oFaddr 1 (xL 0)) (sV (oLoad (xL 0)) (sV (oBin .eql .no (xT 8) (xL 0)) (sC (cFn 164) [(xT 3), (xL 0)] sEnd)))))))
 (kSeq (kSeq (kReg (sV (oLoad (xT 1)) (sV (oNilc (xL 0)) (sV (oFaddr 0 (xL 0)) (sV (oLoad (xL 0)) (sV (oLenL (xL 0)) (sS 12 (xL 0) (sS 13 (ki 0) sEnd))))))))
 (kBlock 2 (kLoop (kSeq (kReg (sV (oBin .lss .no (xT 13) (xT 12)) (sS 14 (xL 0) sEnd)))
 (kSeq (kCond (xT 14) kSkip
 (kExit 2))
 (kSeq (kBlock 3 (kSeq (kReg (sS 15 (xT 13) sEnd))
 (kSeq (kReg (sV (oLoad (xT 1)) (sV (oNilc (xL 0)) (sV (oFaddr 0 (xL 0)) (sV (oLoad (xL 0)) (sV (oIaddr 3 (xL 0) (xT 15)) (sS 16 (xL 0) sEnd)))))))
 (kSeq (kReg (sV (oIaddr 1 (xT 10) (xT 15)) (sV (oLoad (xL 0)) (sC (cFn 119) [(xT 3), (xL 0)] (sV (oNilc (xT 16)) (sV (oFaddr 2 (xL 0)) (sH (oStore 1 (xL 0) (xL 2)) sEnd)))))))
 (kSeq (kReg (sC (cFn 164) [(xT 3), (xK (bool true))] sEnd))
 (kSeq (kReg (sV (oNilc (xT 16)) (sV (oLoadN 3 (xL 0)) (sC (cFn 103) [(xL 0)] (sS 17 (xL 0) sEnd)))))
 (kBlock 4 (kRf 8797149975358 [18, 19] (xT 17)))))))))
 (kReg (sV (oBin .add .no (xT 13) (ki 1)) (sS 13 (xL 0) sEnd)))))))))
 (kSeq (kReg (sC (cFn 120) [(xT 3)] (sV (oBin .eql .no (xL 0) (ki 0)) (sC (cFn 164) [(xT 3), (xL 0)] sEnd))))
 (kSeq (kReg (sH (oAlloc 245 1 [nils]) (sS 28 (xL 0) sEnd)))
 (kSeq (kSeq (kReg (sV (oLoad (xT 1)) (sV (oNilc (xL 0)) (sV (oFaddr 0 (xL 0)) (sV (oLoad (xL 0)) (sS 23 (xL 0) (sV (oLenL (xT 23)) (sS 20 (xL 0) (sS 21 (ki 0) sEnd)))))))))
 (kBlock 6 (kLoop (kSeq (kReg (sV (oBin .lss .no (xT 21) (xT 20)) (sS 22 (xL 0) sEnd)))
 (kSeq (kCond (xT 22) kSkip
 (kExit 6))
 (kSeq (kBlock 7 (kSeq (kReg (sV (oIaddr 3 (xT 23) (xT 21)) (sV (oLoadN 3 (xL 0)) (sH (oAlloc 193 3 [(int .i64 (.ofNat 0)), (int .i64 (.ofNat 0)), nils]) (sS 24 (xL 0) (sH (oStore 3 (xT 24) (xL 1)) sEnd))))))
 (kSeq (kReg (sV (oLoadN 3 (xT 24)) (sC (cFn 103) [(xL 0)] (sS 25 (xL 0) sEnd))))
 (kBlock 8 (kRf 8797149985382 [26, 27] (xT 25))))))
 (kReg (sV (oBin .add .no (xT 21) (ki 1)) (sS 21 (xL 0) sEnd)))))))))
 (kSeq (kReg (sV (oLoad (xT 28)) (sC (cFn 129) [(xL 0)] (sC (cFn 198) [(xL 0), (xT 0)] (sC (cFn 164) [(xT 3), (xL 0)] sEnd)))))
 (kSeq (kReg (sV (oLoad (xT 1)) (sH (oStore 1 (xT 1) (xL 0)) (sH (oStore 1 (xT 2) (ki 0)) sEnd))))
 kRet)))))))))))))))
theorem t125 : FF d125 Tryz.f125 a125 [(.cell 1 none), (.cell 2 none)] := ff Tryz.func125 (by kernel_rfl)
def x125 : XFn := .go a125 1 pd29 [(.cell 1 none), (.cell 2 none)]
def r125x0 : CodeF × CodeF := (kSkip,
 (kBlock 5 kSkip))
theorem u125x0 : RfFact Tryz.prog d125 Tryz.f125 8797149975358 r125x0 := ⟨Tryz.func125, by kernel_rfl⟩
def r125x1 : CodeF × CodeF := ((kReg (sS 29 (xT 27) sEnd)),
 (kBlock 9 (kReg (sV (oLoad (xT 28)) (sH (oBsl 38 1 1 [nils] [(0, 1, (xT 29))]) (sH (oApp 38 1 (xL 1) (xL 0)) (sH (oStore 1 (xT 28) (xL 0)) sEnd)))))))
theorem u125x1 : RfFact Tryz.prog d125 Tryz.f125 8797149985382 r125x1 := ⟨Tryz.func125, by kernel_rfl⟩
def d126 : FD := ⟨126, 3, [6, 3, 33, 34, 35, 9, 7, 10, 8, 69, 13, 11, 100]⟩
def a126 : CodeF := (kSeq (kReg (sH (oBox 110 7 (xT 0)) (sS 4 (xL 0) (sH (oAlloc 178 6 [nilptr, nils, nils, nilptr, nilptr, nilptr]) (sS 3 (xL 0) sEnd)))))
 (kSeq (kRegC (fun k => (sV (oFaddr 1 (xT 4)) (sV (oLoad (xL 0)) (sV (oBin .eql .no (xL 0) (ki 1)) (sG (xL 0) false (sV (oFaddr 1 (xT 4))) (sG (xL 1) false (sV (oLoad (xL 0))) (sG (xL 2) false (sV (oBin .eql .no (xL 0) (ki 2))) (sV (oPick (xL 3) (xK (bool true)) (xL 0)) k)))))))) (xL 0) (kSeq (kReg (sC (cVal (xT 2)) [] (sC (cFn 200) [(xL 0)] (sV (oExt 0 (xL 0)) (sV (oExt 1 (xL 1)) (sC (cFn 199) [(xL 1), (xL 0)] (sV (oFaddr 0 (xT 3)) (sH (oStore 1 (xL 0) (xL 1)) sEnd))))))))
 (kSeq (kReg (sC (cVal (xT 2)) [] (sS 9 (xL 0) sEnd)))
 (kSeq (kReg (sS 11 (xK (int .u64 (.ofNat 0))) sEnd))
 (kSeq (kReg (sV (oFaddr 0 (xT 3)) (sV (oLoad (xL 0)) (sC (cFn 147) [(xL 0)] (sS 5 (xL 0) (sS 6 (ki 0) sEnd))))))
 (kBlock 0 (kLoop (kSeq (kReg (sV (oBin .lss .no (xT 6) (xT 5)) (sS 7 (xL 0) sEnd)))
 (kSeq (kCond (xT 7) kSkip
 (kExit 0))
 (kSeq (kBlock 1 (kSeq (kReg (sS 8 (xT 6) sEnd))
 (kSeq (kReg (sV (oFaddr 0 (xT 3)) (sV (oLoad (xL 0)) (sC (cFn 201) [(xL 0), (xT 8)] (sS 10 (xL 0) sEnd)))))
 (kSeq (kRegC (fun k => (sV (oBin .lss .no (xT 10) (xT 11)) (sG (xL 0) false (sV (oMov (xT 10))) (sG (xL 1) false (sV (oMov (xT 9))) (sG (xL 2) false (sV (oLenL (xL 0))) (sG (xL 3) false (sV (oConv .u64 (xL 0))) (sG (xL 4) false (sV (oBin .gtr .no (xL 3) (xL 0))) (sV (oPick (xL 5) (xK (bool true)) (xL 0)) k)))))))) (xL 0) (kReg (sV (oBuild [(int .i64 (.ofNat 0))] [(0, 1, (ki 20))]) (sV (oMkif 201 (xL 0)) (sPan (xL 0)))))
 kSkip)
 (kSeq (kDraw [(.v (oFaddr 1 (xT 3)), none), (.v (oLoad (xL 0)), none), (.v (oMov (xT 9)), none), (.v (oMov (xT 11)), none), (.v (oMov (xT 10)), none), (.v (oSlc 1 (xL 2) (some (xL 1)) (some (xL 0)) none), none), (.c (cFn 203) [(xL 0)], none), (.v (oExt 0 (xL 0)), none), (.v (oExt 1 (xL 1)), none), (.c (cFn 202) [(xL 1), (xL 0)], none), (.h (oBsl 181 1 1 [nilptr] [(0, 1, (xL 0))]), none), (.h (oApp 181 1 (xL 9) (xL 0)), none), (.v (oFaddr 1 (xT 3)), none), (.h (oStore 1 (xL 0) (xL 1)), none)] 0 [none, none, none, none, none, none, none, none, none, none, none, none, none, none, none, none] [(12, 7), (12, 4), (12, 3)])
 (kReg (sS 11 (xT 10) sEnd)))))))
 (kReg (sV (oBin .add .no (xT 6) (ki 1)) (sS 6 (xL 0) sEnd))))))))))))
 kSkip)
 (kSeq (kSeq (kReg (sV (oFaddr 1 (xT 4)) (sV (oLoad (xL 0)) (sS 12 (xL 0) sEnd))))
 (kBlock 2 (kRegC (fun k => (sV (oBin .eql .no (xT 12) (ki 1)) k)) (xL 0) (kSeq (kReg (sC (cVal (xT 2)) [] (sC (cFn 118) [(xL 0), (xT 1)] (sV (oExt 0 (xL 0)) (sV (oExt 1 (xL 1)) (sV (oExt 2 (xL 2)) (sS 14 (xL 2) (sS 13 (xL 0) sEnd))))))))
 (kReg (sC (cFn 121) [(xT 14), (xT 13)] (sV (oFaddr 2 (xT 3)) (sH (oStore 1 (xL 0) (xL 1)) sEnd)))))
 (kRegC (fun k => (sV (oBin .eql .no (xT 12) (ki 2)) k)) (xL 0) (kReg (sC (cVal (xT 2)) [] (sC (cFn 205) [(xL 0)] (sV (oExt 0 (xL 0)) (sV (oExt 1 (xL 1)) (sC (cFn 204) [(xL 1), (xL 0)] (sV (oFaddr 3 (xT 3)) (sH (oStore 1 (xL 0) (xL 1)) sEnd))))))))
 (kSeq (kRegC (fun k => (sV (oBin .eql .no (xT 12) (ki 3)) (sS 15 (xL 0) k))) (xT 15) kSkip
 (kReg (sV (oBin .eql .no (xT 12) (ki 4)) (sS 15 (xL 0) sEnd))))
 (kCond (xT 15) (kSeq (kReg (sC (cVal (xT 2)) [] (sC (cFn 207) [(xL 0)] (sV (oExt 0 (xL 0)) (sV (oExt 1 (xL 1)) (sC (cFn 206) [(xL 1), (xL 0)] (sV (oFaddr 4 (xT 3)) (sH (oStore 1 (xL 0) (xL 1)) sEnd))))))))
 (kReg (sC (cVal (xT 2)) [] (sC (cFn 209) [(xL 0)] (sV (oExt 0 (xL 0)) (sV (oExt 1 (xL 1)) (sC (cFn 208) [(xL 1), (xL 0)] (sV (oFaddr 5 (xT 3)) (sH (oStore 1 (xL 0) (xL 1)) sEnd)))))))))
 (kReg (sC (cVal (xT 2)) [] (sC (cFn 209) [(xL 0)] (sV (oExt 0 (xL 0)) (sV (oExt 1 (xL 1)) (sC (cFn 208) [(xL 1), (xL 0)] (sV (oFaddr 5 (xT 3)) (sH (oStore 1 (xL 0) (xL 1)) sEnd))))))))))))))
 (kSeq (kReg (sV (oLoadN 6 (xT 3)) (sH (oStore 6 (xT 3) (xL 0)) sEnd)))
 kRet))))
theorem t126 : FF d126 Tryz.f126 a126 [(.cell 3 (some 6))] := ff Tryz.func126 (by kernel_rfl)
def x126 : XFn := .go a126 3 pd13 [(.cell 3 (some 6))]
def d127 : FD := ⟨127, 2, [4]⟩
def a127 : CodeF := (kSeq (kReg (sS 2 (xK nils) sEnd))
 (kSeq (kReg (sC (cFn 210) [(xT 0), (xT 1), (xK (.func (.func 211) [] []))] (sS 2 (xL 0) sEnd)))
 kRet))
theorem t127 : FF d127 Tryz.f127 a127 [(.t 2)] := ff Tryz.func127 (by kernel_rfl)
def x127 : XFn := .go a127 2 pd1 [(.t 2)]
def d128 : FD := ⟨128, 1, [2, 11, 12, 4, 19, 20, 21, 18, 5, 8, 7, 6, 3, 9]⟩
def a128 : CodeF := (kSeq (kReg (sS 1 (xK nils) sEnd))
 (kSeq (kReg (sH (oAlloc 137 1 [nils]) (sS 13 (xL 0) sEnd)))
 (kSeq (kSeq (kReg (sC (cFn 212) [(xT 0), (ki 128)] (sS 2 (xL 0) sEnd)))
 (kBlock 0 (kRf 33558554 [3] (xT 2))))
 (kSeq (kReg (sV (oLoad (xT 13)) (sC (cFn 196) [(xL 0)] (sS 1 (xL 0) sEnd))))
 kRet))))
theorem t128 : FF d128 Tryz.f128 a128 [(.t 1)] := ff Tryz.func128 (by kernel_rfl)
def x128 : XFn := .go a128 1 pd14 [(.t 1)]
def r128x0 : CodeF × CodeF := ((kReg (sS 4 (xT 3) sEnd)),
 (kBlock 1 (kSeq (kReg (sC (cFn 213) [(xT 4)] (sS 9 (xL 0) sEnd)))
 (kSeq (kReg (sV (oLenL (xT 4)) (sH (oMksl 26 1 [(int .u64 (.ofNat 0))] (xL 0) (xL 0)) (sS 12 (xL 0) sEnd))))
 (kSeq (kSeq (kReg (sS 8 (xT 4) (sV (oLenL (xT 8)) (sS 5 (xL 0) (sS 6 (ki 0) sEnd)))))
 (kBlock 2 (kLoop (kSeq (kReg (sV (oBin .lss .no (xT 6) (xT 5)) (sS 7 (xL 0) sEnd)))
 (kSeq (kCond (xT 7) kSkip
 (kExit 2))
 (kSeq (kBlock 3 (kSeq (kReg (sV (oIaddr 1 (xT 8) (xT 6)) (sV (oLoad (xL 0)) (sS 11 (xT 6) (sS 10 (xL 0) sEnd)))))
 (kReg (sV (oConv .u64 (xT 10)) (sV (oConv .u64 (xT 9)) (sV (oBin .sub .no (xL 1) (xL 0)) (sV (oIaddr 1 (xT 12) (xT 11)) (sH (oStore 1 (xL 0) (xL 1)) sEnd))))))))
 (kReg (sV (oBin .add .no (xT 6) (ki 1)) (sS 6 (xL 0) sEnd)))))))))
 (kSeq (kReg (sC (cFn 192) [(xT 12)] (sS 14 (xL 0) sEnd)))
 (kSeq (kReg (sV (oLoad (xT 13)) (sC (cFn 214) [(xL 0), (xT 9)] (sH (oStore 1 (xT 13) (xL 0)) sEnd))))
 (kReg (sV (oLoad (xT 13)) (sV (oConv .u8 (xT 14)) (sH (oBsl 5 1 1 [(int .u8 (.ofNat 0))] [(0, 1, (xL 0))]) (sH (oApp 5 1 (xL 2) (xL 0)) (sC (cFn 215) [(xT 12), (xT 14)] (sH (oApp 5 1 (xL 1) (xL 0)) (sH (oStore 1 (xT 13) (xL 0)) sEnd)))))))))))))))
theorem u128x0 : RfFact Tryz.prog d128 Tryz.f128 33558554 r128x0 := ⟨Tryz.func128, by kernel_rfl⟩
def d129 : FD := ⟨129, 1, [2, 4, 3, 26, 27, 28, 25, 7, 5, 47, 48, 49, 46, 9]⟩
def a129 : CodeF := (kSeq (kReg (sS 1 (xK nils) sEnd))
 (kSeq (kReg (sC (cFn 216) [(xT 0)] (sV (oExt 0 (xL 0)) (sV (oExt 1 (xL 1)) (sS 3 (xL 1) (sS 2 (xL 0) sEnd))))))
 (kSeq (kRegC (fun k => (sV (oUn .not (xT 2)) k)) (xL 0) (kSeq (kReg (sS 1 (xK nils) sEnd))
 kRet)
 kSkip)
 (kSeq (kReg (sV (oLenL (xT 0)) (sV (oConv .u64 (xL 0)) (sC (cFn 127) [(xK nils), (xL 0)] (sV (oLenL (xT 3)) (sV (oConv .u64 (xL 0)) (sC (cFn 127) [(xL 2), (xL 0)] (sS 9 (xL 0) sEnd))))))))
 (kSeq (kSeq (kReg (sS 7 (xT 3) (sV (oLenL (xT 7)) (sS 4 (xL 0) (sS 5 (ki 0) sEnd)))))
 (kBlock 0 (kLoop (kSeq (kReg (sV (oBin .lss .no (xT 5) (xT 4)) (sS 6 (xL 0) sEnd)))
 (kSeq (kCond (xT 6) kSkip
 (kExit 0))
 (kSeq (kBlock 1 (kSeq (kReg (sV (oIaddr 3 (xT 7) (xT 5)) (sV (oLoadN 3 (xL 0)) (sH (oAlloc 193 3 [(int .i64 (.ofNat 0)), (int .i64 (.ofNat 0)), nils]) (sS 8 (xL 0) (sH (oStore 3 (xT 8) (xL 1)) sEnd))))))
 (kDraw [(.v (oMov (xT 9)), none), (.v (oFaddr 1 (xT 8)), none), (.v (oLoad (xL 0)), none), (.v (oFaddr 0 (xT 8)), none), (.v (oLoad (xL 0)), none), (.v (oBin .sub .no (xL 2) (xL 0)), none), (.v (oConv .u64 (xL 0)), none), (.c (cFn 127) [(xK nils), (xL 0)], none), (.v (oFaddr 2 (xT 8)), none), (.v (oLoad (xL 0)), none), (.v (oLenL (xL 0)), none), (.v (oConv .u64 (xL 0)), none), (.c (cFn 127) [(xL 4), (xL 0)], none), (.h (oApp 5 1 (xL 12) (xL 0)), none), (.v (oMov (xL 0)), none)] 0 [none, none, none, none, none, none, none, none, none, (some 0), none, none, none, none, none] [(5, 7)])))
 (kReg (sV (oBin .add .no (xT 5) (ki 1)) (sS 5 (xL 0) sEnd)))))))))
 (kSeq (kSeq (kReg (sS 13 (xT 3) (sV (oLenL (xT 13)) (sS 10 (xL 0) (sS 11 (ki 0) sEnd)))))
 (kBlock 2 (kLoop (kSeq (kReg (sV (oBin .lss .no (xT 11) (xT 10)) (sS 12 (xL 0) sEnd)))
 (kSeq (kCond (xT 12) kSkip
 (kExit 2))
 (kSeq (kBlock 3 (kSeq (kReg (sV (oIaddr 3 (xT 13) (xT 11)) (sV (oLoadN 3 (xL 0)) (sH (oAlloc 193 3 [(int .i64 (.ofNat 0)), (int .i64 (.ofNat 0)), nils]) (sS 14 (xL 0) (sH (oStore 3 (xT 14) (xL 1)) sEnd))))))
 (kReg (sV (oMov (xT 9)) (sV (oFaddr 2 (xT 14)) (sV (oLoad (xL 0)) (sH (oApp 5 1 (xL 2) (xL 0)) (sS 9 (xL 0) sEnd))))))))
 (kReg (sV (oBin .add .no (xT 11) (ki 1)) (sS 11 (xL 0) sEnd)))))))))
 (kSeq (kReg (sS 1 (xT 9) sEnd))
 kRet)))))))
theorem t129 : FF d129 Tryz.f129 a129 [(.t 1)] := ff Tryz.func129 (by kernel_rfl)
def x129 : XFn := .go a129 1 pd14 [(.t 1)]
def d130 : FD := ⟨130, 2, [4, 2, 6, 3, 25]⟩
def a130 : CodeF := (kSeq (kReg (sH (oBox 110 7 (xT 0)) (sS 3 (xL 0) (sH (oBox 216 6 (xT 1)) (sS 5 (xL 0) (sS 2 (xK nils) sEnd))))))
 (kSeq (kSeq (kReg (sV (oFaddr 1 (xT 3)) (sV (oLoad (xL 0)) (sS 4 (xL 0) sEnd))))
 (kBlock 0 (kRegC (fun k => (sV (oBin .eql .no (xT 4) (ki 1)) k)) (xL 0) (kSeq (kDraw [(.v (oLoadN 6 (xT 5)), none), (.c (cFn 217) [(xL 0)], none), (.v (oFaddr 2 (xT 5)), none), (.v (oLoad (xL 0)), none), (.c (cFn 128) [(xL 0)], none), (.h (oBsl 137 1 1 [nils] [(0, 1, (xL 0))]), none), (.h (oApp 137 1 (xL 4) (xL 0)), none), (.v (oMov (xL 0)), none)] 0 [none, none, (some 0), none, none, none, none] [(4, 6)])
 kRet)
 (kRegC (fun k => (sV (oBin .eql .no (xT 4) (ki 2)) k)) (xL 0) (kSeq (kDraw [(.v (oLoadN 6 (xT 5)), none), (.c (cFn 217) [(xL 0)], none), (.v (oFaddr 3 (xT 5)), none), (.v (oLoad (xL 0)), none), (.c (cFn 218) [(xL 0)], none), (.h (oBsl 137 1 1 [nils] [(0, 1, (xL 0))]), none), (.h (oApp 137 1 (xL 4) (xL 0)), none), (.v (oMov (xL 0)), none)] 0 [none, none, (some 0), none, none, none, none] [(4, 6)])
 kRet)
 (kSeq (kRegC (fun k => (sV (oBin .eql .no (xT 4) (ki 3)) (sS 6 (xL 0) k))) (xT 6) kSkip
 (kReg (sV (oBin .eql .no (xT 4) (ki 4)) (sS 6 (xL 0) sEnd))))
 (kCond (xT 6) (kSeq (kDraw [(.v (oFaddr 4 (xT 5)), none), (.v (oLoad (xL 0)), none), (.c (cFn 219) [(xL 0)], none), (.v (oFaddr 5 (xT 5)), none), (.v (oLoad (xL 0)), none), (.c (cFn 220) [(ki 1), (xL 0)], none), (.h (oBsl 137 1 2 [nils] [(0, 1, (xL 3)), (1, 1, (xL 0))]), none), (.v (oMov (xL 0)), none)] 0 [none, none, (some 0), none, none, none, none] [(3, 5)])
 kRet)
 kSkip))))))
 (kSeq (kDraw [(.v (oLoadN 7 (xT 3)), none), (.c (cFn 221) [(xL 0)], none), (.v (oFaddr 5 (xT 5)), none), (.v (oLoad (xL 0)), none), (.c (cFn 220) [(xL 2), (xL 0)], none), (.h (oBsl 137 1 1 [nils] [(0, 1, (xL 0))]), none), (.v (oMov (xL 0)), none)] 0 [none, none, (some 0), none, none, none, none] [(3, 5)])
 kRet)))
theorem t130 : FF d130 Tryz.f130 a130 [(.t 2)] := ff Tryz.func130 (by kernel_rfl)
def x130 : XFn := .go a130 2 pd5 [(.t 2)]
def d131 : FD := ⟨131, 2, [4]⟩
def a131 : CodeF := (kSeq (kReg (sS 2 (xK nils) sEnd))
 (kSeq (kRegC (fun k => (sV (oBin .neq .no (xT 1) (ki 0)) k)) (xL 0) (kReg (sV (oBuild [(int .i64 (.ofNat 0))] [(0, 1, (xT 1))]) (sV (oMkif 201 (xL 0)) (sPan (xL 0)))))
 kSkip)
 (kSeq (kReg (sS 2 (xT 0) sEnd))
 kRet)))
theorem t131 : FF d131 Tryz.f131 a131 [(.t 2)] := ff Tryz.func131 (by kernel_rfl)
def x131 : XFn := .go a131 2 pd1 [(.t 2)]
def d132 : FD := ⟨132, 2, [4, 5, 23, 24, 25, 22, 9, 6, 7]⟩
def a132 : CodeF := (kSeq (kReg (sS 2 (xK nils) (sS 3 (ki 0) sEnd)))
 (kSeq (kRegC (fun k => (sV (oLenL (xT 1)) (sV (oBin .gtr .no (xL 0) (ki 1024)) k))) (xL 0) (kSeq (kReg (sS 2 (xK nils) (sS 3 (ki 3) sEnd)))
 kRet)
 kSkip)
 (kSeq (kReg (sH (oBsl 5 1 3 [(int .u8 (.ofNat 0))] [(0, 1, (xK (int .u8 (.ofNat 76)))), (1, 1, (xK (int .u8 (.ofNat 84)))), (2, 1, (xK (int .u8 (.ofNat 1))))]) (sH (oMark (xL 0)) (sH (oBsl 5 1 1 [(int .u8 (.ofNat 0))] [(0, 1, (xT 0))]) (sH (oApp 5 1 (xL 1) (xL 0)) (sV (oLenL (xT 1)) (sV (oConv .u64 (xL 0)) (sC (cFn 127) [(xL 2), (xL 0)] (sS 9 (xL 0) sEnd)))))))))
 (kSeq (kReg (sS 10 (ki 4) sEnd))
 (kSeq (kSeq (kReg (sS 7 (xT 1) (sV (oLenL (xT 7)) (sS 4 (xL 0) (sS 5 (ki 0) sEnd)))))
 (kBlock 0 (kLoop (kSeq (kReg (sV (oBin .lss .no (xT 5) (xT 4)) (sS 6 (xL 0) sEnd)))
 (kSeq (kCond (xT 6) kSkip
 (kExit 0))
 (kSeq (kBlock 1 (kSeq (kReg (sV (oIaddr 1 (xT 7) (xT 5)) (sV (oLoad (xL 0)) (sS 8 (xL 0) sEnd))))
 (kSeq (kReg (sV (oMov (xT 9)) (sV (oLenL (xT 8)) (sV (oConv .u64 (xL 0)) (sC (cFn 127) [(xL 2), (xL 0)] (sS 9 (xL 0) sEnd))))))
 (kSeq (kReg (sV (oMov (xT 10)) (sV (oLenL (xT 8)) (sV (oBin .add .no (xL 1) (xL 0)) (sS 10 (xL 0) sEnd)))))
 (kRegC (fun k => (sV (oBin .gtr .no (xT 10) (ki 16777216)) k)) (xL 0) (kSeq (kReg (sS 2 (xK nils) (sS 3 (ki 3) sEnd)))
 kRet)
 kSkip)))))
 (kReg (sV (oBin .add .no (xT 5) (ki 1)) (sS 5 (xL 0) sEnd)))))))))
 (kSeq (kRegC (fun k => (sV (oLenL (xT 9)) (sV (oBin .add .no (xL 0) (xT 10)) (sV (oBin .gtr .no (xL 0) (ki 16777216)) k)))) (xL 0) (kSeq (kReg (sS 2 (xK nils) (sS 3 (ki 3) sEnd)))
 kRet)
 kSkip)
 (kSeq (kReg (sV (oMov (xT 9)) (sC (cFn 222) [(xT 1)] (sH (oApp 5 1 (xL 1) (xL 0)) (sS 9 (xL 0) sEnd)))))
 (kSeq (kReg (sH (oBsl 137 1 1 [nils] [(0, 1, (xT 9))]) (sC (cFn 184) [(xL 0)] (sC (cFn 183) [(xL 0)] (sH (oApp 5 1 (xT 9) (xL 0)) (sC (cFn 196) [(xL 0)] (sS 2 (xL 0) (sS 3 (ki 0) sEnd))))))))
 kRet))))))))
theorem t132 : FF d132 Tryz.f132 a132 [(.t 2), (.t 3)] := ff Tryz.func132 (by kernel_rfl)
def x132 : XFn := .go a132 2 pd9 [(.t 2), (.t 3)]
def d133 : FD := ⟨133, 1, [2]⟩
def a133 : CodeF := (kSeq (kReg (sS 1 (xK nils) sEnd))
 (kSeq (kReg (sV (oLenL (xT 0)) (sV (oLenL (xT 0)) (sV (oSlc 7 (xT 0) none (some (xL 1)) (some (xL 0))) (sS 1 (xL 0) sEnd)))))
 kRet))
theorem t133 : FF d133 Tryz.f133 a133 [(.t 1)] := ff Tryz.func133 (by kernel_rfl)
def x133 : XFn := .go a133 1 pd1 [(.t 1)]
def d134 : FD := ⟨134, 1, [2]⟩
def a134 : CodeF := (kSeq (kReg (sS 1 (xK nils) sEnd))
 (kSeq (kRegC (fun k => (sV (oBin .eql .slice (xT 0) (xK nils)) k)) (xL 0) (kSeq (kReg (sS 1 (xK nils) sEnd))
 kRet)
 kSkip)
 (kSeq (kReg (sH (oBsl 110 7 0 [(str []), (int .i64 (.ofNat 0)), nils, (int .i64 (.ofNat 0)), (int .i64 (.ofNat 0)), (bool false), (bool false)] []) (sH (oApp 110 7 (xL 0) (xT 0)) (sS 1 (xL 0) sEnd))))
 kRet)))
theorem t134 : FF d134 Tryz.f134 a134 [(.t 1)] := ff Tryz.func134 (by kernel_rfl)
def x134 : XFn := .go a134 1 pd1 [(.t 1)]
def d135 : FD := ⟨135, 1, [2]⟩
def a135 : CodeF := (kSeq (kReg (sS 1 (xK nils) sEnd))
 (kSeq (kRegC (fun k => (sV (oBin .eql .slice (xT 0) (xK nils)) k)) (xL 0) (kSeq (kReg (sS 1 (xK nils) sEnd))
 kRet)
 kSkip)
 (kSeq (kReg (sH (oBsl 3 1 0 [(int .i64 (.ofNat 0))] []) (sH (oApp 3 1 (xL 0) (xT 0)) (sS 1 (xL 0) sEnd))))
 kRet)))
theorem t135 : FF d135 Tryz.f135 a135 [(.t 1)] := ff Tryz.func135 (by kernel_rfl)
def x135 : XFn := .go a135 1 pd1 [(.t 1)]
def d136 : FD := ⟨136, 3, [6, 16, 17, 18, 15, 7, 9, 8]⟩
def a136 : CodeF := (kSeq (kReg (sS 3 (xK (bool false)) sEnd))
 (kSeq (kRegC (fun k => (sV (oLenL (xT 0)) (sV (oLenL (xT 1)) (sV (oBin .neq .no (xL 1) (xL 0)) k)))) (xL 0) (kSeq (kReg (sS 3 (xK (bool false)) sEnd))
 kRet)
 kSkip)
 (kSeq (kSeq (kReg (sS 7 (xT 0) (sV (oLenL (xT 7)) (sS 4 (xL 0) (sS 5 (ki 0) sEnd)))))
 (kBlock 0 (kLoop (kSeq (kReg (sV (oBin .lss .no (xT 5) (xT 4)) (sS 6 (xL 0) sEnd)))
 (kSeq (kCond (xT 6) kSkip
 (kExit 0))
 (kSeq (kBlock 1 (kSeq (kReg (sV (oIaddr 7 (xT 7) (xT 5)) (sV (oLoadN 7 (xL 0)) (sH (oAlloc 110 7 [(str []), (int .i64 (.ofNat 0)), nils, (int .i64 (.ofNat 0)), (int .i64 (.ofNat 0)), (bool false), (bool false)]) (sS 10 (xL 0) (sS 8 (xT 5) (sH (oStore 7 (xT 10) (xL 1)) sEnd)))))))
 (kSeq (kReg (sV (oIaddr 7 (xT 1) (xT 8)) (sV (oLoadN 7 (xL 0)) (sH (oAlloc 110 7 [(str []), (int .i64 (.ofNat 0)), nils, (int .i64 (.ofNat 0)), (int .i64 (.ofNat 0)), (bool false), (bool false)]) (sS 9 (xL 0) (sH (oStore 7 (xT 9) (xL 1)) sEnd))))))
 (kRegC (fun k => (sV (oLoadN 7 (xT 10)) (sV (oLoadN 7 (xT 9)) (sC (cVal (xT 2)) [(xL 1), (xL 0)] (sV (oUn .not (xL 0)) k))))) (xL 0) (kSeq (kReg (sS 3 (xK (bool false)) sEnd))
 kRet)
 kSkip))))
 (kReg (sV (oBin .add .no (xT 5) (ki 1)) (sS 5 (xL 0) sEnd)))))))))
 (kSeq (kReg (sS 3 (xK (bool true)) sEnd))
 kRet))))
theorem t136 : FF d136 Tryz.f136 a136 [(.t 3)] := ff Tryz.func136 (by kernel_rfl)
def x136 : XFn := .go a136 3 pd8 [(.t 3)]
def d138 : FD := ⟨138, 2, [4, 12, 13, 14, 5, 24]⟩
def a138 : CodeF := (kSeq (kReg (sS 2 (xK (bool false)) sEnd))
 (kSeq (kRegC (fun k => (sV (oLenL (xT 0)) (sV (oLenL (xT 1)) (sV (oBin .neq .no (xL 1) (xL 0)) k)))) (xL 0) (kSeq (kReg (sS 2 (xK (bool false)) sEnd))
 kRet)
 kSkip)
 (kSeq (kSeq (kReg (sV (oLenL (xT 0)) (sS 3 (xL 0) (sS 4 (ki 0) sEnd))))
 (kBlock 0 (kLoop (kSeq (kReg (sV (oBin .lss .no (xT 4) (xT 3)) (sS 5 (xL 0) sEnd)))
 (kSeq (kCond (xT 5) kSkip
 (kExit 0))
 (kSeq (kBlock 1 (kSeq (kReg (sS 6 (xT 4) sEnd))
 (kSeq (kDraw [(.v (oMov (xT 0)), none), (.v (oMov (xT 6)), none), (.v (oIaddr 1 (xL 1) (xL 0)), none), (.v (oLoad (xL 0)), none), (.v (oMov (xT 1)), none), (.v (oMov (xT 6)), none), (.v (oIaddr 1 (xL 1) (xL 0)), none), (.v (oLoad (xL 0)), none), (.v (oBin .neq .no (xL 4) (xL 0)), none)] 0 [none, none, none, none, none, none, none, (some 0)] [])
 (kCond (xT 7) (kSeq (kReg (sS 2 (xK (bool false)) sEnd))
 kRet)
 kSkip))))
 (kReg (sV (oBin .add .no (xT 4) (ki 1)) (sS 4 (xL 0) sEnd)))))))))
 (kSeq (kReg (sS 2 (xK (bool true)) sEnd))
 kRet))))
theorem t138 : FF d138 Tryz.f138 a138 [(.t 2)] := ff Tryz.func138 (by kernel_rfl)
def x138 : XFn := .go a138 2 pd6 [(.t 2)]
def d139 : FD := ⟨139, 4, [10, 8, 12, 11, 9, 87, 13, 15, 14, 17, 16, 18]⟩
def a139 : CodeF := (kSeq (kReg (sS 5 (xK (bool true)) sEnd))
 (kSeq (kReg (sS 8 (xK (bool true)) sEnd))
 (kBlock 0 (kLoop (kBlock 1 (kSeq (kReg (sV (oBin .sub .no (xT 2) (xT 1)) (sS 4 (xL 0) sEnd)))
 (kSeq (kRegC (fun k => (sV (oBin .leq .no (xT 4) (ki 12)) k)) (xL 0) (kSeq (kReg (sC (cFn 223) [(xT 0), (xT 1), (xT 2)] sEnd))
 kRet)
 kSkip)
 (kSeq (kRegC (fun k => (sV (oBin .eql .no (xT 3) (ki 0)) k)) (xL 0) (kSeq (kReg (sC (cFn 224) [(xT 0), (xT 1), (xT 2)] sEnd))
 kRet)
 kSkip)
 (kSeq (kRegC (fun k => (sV (oUn .not (xT 5)) k)) (xL 0) (kSeq (kReg (sC (cFn 225) [(xT 0), (xT 1), (xT 2)] sEnd))
 (kReg (sV (oMov (xT 3)) (sV (oBin .sub .no (xL 0) (ki 1)) (sS 3 (xL 0) sEnd)))))
 kSkip)
 (kSeq (kReg (sC (cFn 226) [(xT 0), (xT 1), (xT 2)] (sV (oExt 0 (xL 0)) (sV (oExt 1 (xL 1)) (sS 7 (xL 1) (sS 6 (xL 0) sEnd))))))
 (kSeq (kRegC (fun k => (sV (oBin .eql .no (xT 6) (ki 2)) k)) (xL 0) (kSeq (kReg (sC (cFn 227) [(xT 0), (xT 1), (xT 2)] sEnd))
 (kSeq (kReg (sV (oBin .sub .no (xT 2) (ki 1)) (sV (oMov (xT 7)) (sV (oBin .sub .no (xL 0) (xT 1)) (sV (oBin .sub .no (xL 2) (xL 0)) (sS 7 (xL 0) sEnd))))))
 (kReg (sS 6 (ki 1) sEnd))))
 kSkip)
 (kSeq (kRegC (fun k => (sG (xT 5) true (sV (oMov (xT 8))) (sV (oPick (xT 5) (xL 0) (xK (bool false))) (sG (xL 0) true (sV (oMov (xT 6))) (sG (xL 1) true (sV (oBin .eql .no (xL 0) (ki 1))) (sV (oPick (xL 2) (xL 0) (xK (bool false))) k)))))) (xL 0) (kRegC (fun k => (sC (cFn 228) [(xT 0), (xT 1), (xT 2)] k)) (xL 0) kRet
 kSkip)
 kSkip)
 (kSeq (kSeq (kDraw [(.v (oMov (xT 1)), none), (.v (oBin .gtr .no (xL 0) (ki 0)), none), (.v (oMov (xL 0)), none), (.v (oMov (xT 0)), (some ((xL 0), true))), (.v (oMov (xT 1)), (some ((xL 1), true))), (.v (oBin .sub .no (xL 0) (ki 1)), (some ((xL 2), true))), (.v (oIaddr 1 (xL 2) (xL 0)), (some ((xL 3), true))), (.v (oLoad (xL 0)), (some ((xL 4), true))), (.v (oMov (xT 0)), (some ((xL 5), true))), (.v (oMov (xT 7)), (some ((xL 6), true))), (.v (oIaddr 1 (xL 1) (xL 0)), (some ((xL 7), true))), (.v (oLoad (xL 0)), (some ((xL 8), true))), (.c (cFn 229) [(xL 4), (xL 0)], (some ((xL 9), true))), (.v (oUn .not (xL 0)), (some ((xL 10), true))), (.v (oPick (xL 11) (xL 0) (xK (bool false))), none)] 0 [none, none, none, none, none, none, none, none, none, (some 0), none, none, none, none, none, none] [])
 (kCond (xT 9) (kSeq (kReg (sC (cFn 230) [(xT 0), (xT 1), (xT 2), (xT 7)] (sS 10 (xL 0) sEnd)))
 (kSeq (kReg (sS 1 (xT 10) sEnd))
 (kExit 1)))
 kSkip))
 (kSeq (kReg (sC (cFn 231) [(xT 0), (xT 1), (xT 2), (xT 7)] (sV (oExt 0 (xL 0)) (sV (oExt 1 (xL 1)) (sS 12 (xL 1) (sS 11 (xL 0) sEnd))))))
 (kSeq (kReg (sS 8 (xT 11) sEnd))
 (kSeq (kReg (sV (oBin .sub .no (xT 12) (xT 1)) (sV (oBin .sub .no (xT 2) (xT 12)) (sS 14 (xL 1) (sS 13 (xL 0) sEnd)))))
 (kSeq (kReg (sV (oBin .quo .no (xT 4) (ki 8)) (sS 15 (xL 0) sEnd)))
 (kRegC (fun k => (sV (oBin .lss .no (xT 14) (xT 13)) k)) (xL 0) (kSeq (kReg (sV (oBin .geq .no (xT 14) (xT 15)) (sS 5 (xL 0) sEnd)))
 (kSeq (kReg (sC (cFn 139) [(xT 0), (xT 1), (xT 12), (xT 3)] sEnd))
 (kReg (sV (oBin .add .no (xT 12) (ki 1)) (sS 1 (xL 0) sEnd)))))
 (kSeq (kReg (sV (oBin .geq .no (xT 13) (xT 15)) (sS 5 (xL 0) sEnd)))
 (kSeq (kReg (sV (oBin .add .no (xT 12) (ki 1)) (sC (cFn 139) [(xT 0), (xL 0), (xT 2), (xT 3)] sEnd)))
 (kReg (sS 2 (xT 12) sEnd))))))))))))))))))))))
theorem t139 : FF d139 Tryz.f139 a139 [] := ff Tryz.func139 (by kernel_rfl)
def x139 : XFn := .go a139 4 pd12 []
def d140 : FD := ⟨140, 1, [2]⟩
def a140 : CodeF := (kSeq (kReg (sS 1 (ki 0) sEnd))
 (kSeq (kCond (xK (bool false)) (kSeq (kReg (sV (oConv .u32 (xT 0)) (sC (cFn 232) [(xL 0)] (sS 1 (xL 0) sEnd))))
 kRet)
 kSkip)
 (kSeq (kReg (sC (cFn 233) [(xT 0)] (sS 1 (xL 0) sEnd)))
 kRet)))
theorem t140 : FF d140 Tryz.f140 a140 [(.t 1)] := ff Tryz.func140 (by kernel_rfl)
def x140 : XFn := .go a140 1 pd1 [(.t 1)]
def d141 : FD := ⟨141, 1, [2]⟩
def a141 : CodeF := (kSeq (kReg (sS 1 (ki 0) sEnd))
 (kSeq (kRegC (fun k => (sV (oBin .eql .no (xT 0) (xK (int .u64 (.ofNat 0)))) k)) (xL 0) (kSeq (kReg (sS 1 (ki 64) sEnd))
 kRet)
 kSkip)
 (kSeq (kReg (sV (oUn .neg (xT 0)) (sV (oBin .and .no (xT 0) (xL 0)) (sV (oBin .mul .no (xL 0) (xK (int .u64 (.ofNat 285870213051353865)))) (sV (oBin .shr .no (xL 0) (xK (int .u64 (.ofNat 58)))) (sV (oIaddra 64 1 (xK (ptr 0 0)) (xL 0)) (sV (oLoad (xL 0)) (sV (oConv .i64 (xL 0)) (sS 1 (xL 0) sEnd)))))))))
 kRet)))
theorem t141 : FF d141 Tryz.f141 a141 [(.t 1)] := ff Tryz.func141 (by kernel_rfl)
def x141 : XFn := .go a141 1 pd1 [(.t 1)]
def d142 : FD := ⟨142, 1, [2, 1, 39, 46]⟩
def a142 : CodeF := (kSeq (kReg (sH (oBox 110 7 (xT 0)) (sS 2 (xL 0) (sS 1 (xK (bool false)) sEnd))))
 (kSeq (kRegC (fun k => (sV (oFaddr 0 (xT 2)) (sV (oLoad (xL 0)) (sC (cFn 234) [(xL 0)] (sV (oUn .not (xL 0)) (sG (xL 0) false (sV (oFaddr 1 (xT 2))) (sG (xL 1) false (sV (oLoad (xL 0))) (sG (xL 2) false (sV (oBin .neq .no (xL 0) (ki 1))) (sG (xL 3) false (sV (oMov (xL 0))) (sG (xL 0) true (sV (oFaddr 2 (xT 2))) (sG (xL 1) true (sV (oLoad (xL 0))) (sG (xL 2) true (sV (oLenL (xL 0))) (sG (xL 3) true (sV (oBin .gtr .no (xL 0) (ki 0))) (sG (xL 8) false (sV (oPick (xL 4) (xL 0) (xK (bool false)))) (sV (oPick (xL 9) (xK (bool true)) (xL 0)) (sG (xL 0) false (sV (oFaddr 1 (xT 2))) (sG (xL 1) false (sV (oLoad (xL 0))) (sG (xL 2) false (sV (oBin .neq .no (xL 0) (ki 4))) (sG (xL 3) false (sV (oMov (xL 0))) (sG (xL 0) true (sV (oFaddr 3 (xT 2))) (sG (xL 1) true (sV (oLoad (xL 0))) (sG (xL 2) true (sV (oBin .neq .no (xL 0) (ki 0))) (sG (xL 7) false (sV (oPick (xL 3) (xL 0) (xK (bool false)))) (sV (oPick (xL 8) (xK (bool true)) (xL 0)) (sG (xL 0) false (sV (oFaddr 1 (xT 2))) (sG (xL 1) false (sV (oLoad (xL 0))) (sG (xL 2) false (sV (oBin .neq .no (xL 0) (ki 5))) (sG (xL 3) false (sV (oMov (xL 0))) (sG (xL 0) true (sV (oFaddr 4 (xT 2))) (sG (xL 1) true (sV (oLoad (xL 0))) (sG (xL 2) true (sV (oBin .neq .no (xL 0) (ki 0))) (sG (xL 7) false (sV (oPick (xL 3) (xL 0) (xK (bool false)))) (sV (oPick (xL 8) (xK (bool true)) (xL 0)) k))))))))))))))))))))))))))))))))) (xL 0) (kSeq (kReg (sS 1 (xK (bool false)) sEnd))
 kRet)
 kSkip)
 (kSeq (kSeq (kReg (sV (oFaddr 1 (xT 2)) (sV (oLoad (xL 0)) (sS 3 (xL 0) sEnd))))
 (kBlock 0 (kRegC (fun k => (sV (oBin .eql .no (xT 3) (ki 1)) k)) (xL 0) (kSeq (kReg (sV (oFaddr 2 (xT 2)) (sV (oLoad (xL 0)) (sC (cFn 235) [(xL 0)] (sV (oBin .eql .no (xL 0) (ki 0)) (sS 1 (xL 0) sEnd))))))
 kRet)
 (kSeq (kRegC (fun k => (sV (oBin .eql .no (xT 3) (ki 2)) (sS 4 (xL 0) k))) (xT 4) kSkip
 (kReg (sV (oBin .eql .no (xT 3) (ki 3)) (sS 4 (xL 0) sEnd))))
 (kCond (xT 4) (kSeq (kReg (sS 1 (xK (bool true)) sEnd))
 kRet)
 (kRegC (fun k => (sV (oBin .eql .no (xT 3) (ki 4)) k)) (xL 0) (kSeq (kReg (sV (oFaddr 3 (xT 2)) (sV (oLoad (xL 0)) (sV (oBin .geq .no (xL 0) (ki 0)) (sG (xL 0) true (sV (oFaddr 3 (xT 2))) (sG (xL 1) true (sV (oLoad (xL 0))) (sG (xL 2) true (sV (oBin .leq .no (xL 0) (ki 9))) (sV (oPick (xL 3) (xL 0) (xK (bool false))) (sS 1 (xL 0) sEnd)))))))))
 kRet)
 (kRegC (fun k => (sV (oBin .eql .no (xT 3) (ki 5)) k)) (xL 0) (kSeq (kReg (sV (oFaddr 4 (xT 2)) (sV (oLoad (xL 0)) (sV (oBin .geq .no (xL 0) (ki 1)) (sG (xL 0) true (sV (oFaddr 4 (xT 2))) (sG (xL 1) true (sV (oLoad (xL 0))) (sG (xL 2) true (sV (oBin .leq .no (xL 0) (ki 4))) (sV (oPick (xL 3) (xL 0) (xK (bool false))) (sS 1 (xL 0) sEnd)))))))))
 kRet)
 kSkip)))))))
 (kSeq (kReg (sS 1 (xK (bool false)) sEnd))
 kRet))))
theorem t142 : FF d142 Tryz.f142 a142 [(.t 1)] := ff Tryz.func142 (by kernel_rfl)
def x142 : XFn := .go a142 1 pd4 [(.t 1)]
def d145 : FD := ⟨145, 2, [4, 7, 8, 9, 5]⟩
def a145 : CodeF := (kSeq (kReg (sS 2 (ki 0) sEnd))
 (kSeq (kSeq (kReg (sV (oLenL (xT 0)) (sS 3 (xL 0) (sS 4 (ki 0) sEnd))))
 (kBlock 0 (kLoop (kSeq (kReg (sV (oBin .lss .no (xT 4) (xT 3)) (sS 5 (xL 0) sEnd)))
 (kSeq (kCond (xT 5) kSkip
 (kExit 0))
 (kSeq (kBlock 1 (kSeq (kReg (sS 6 (xT 4) sEnd))
 (kRegC (fun k => (sV (oIaddr 3 (xT 0) (xT 6)) (sV (oLoadN 3 (xL 0)) (sC (cVal (xT 1)) [(xL 0)] k)))) (xL 0) (kSeq (kReg (sS 2 (xT 6) sEnd))
 kRet)
 kSkip)))
 (kReg (sV (oBin .add .no (xT 4) (ki 1)) (sS 4 (xL 0) sEnd)))))))))
 (kSeq (kReg (sS 2 (xK (int .i64 (.negSucc 0))) sEnd))
 kRet)))
theorem t145 : FF d145 Tryz.f145 a145 [(.t 2)] := ff Tryz.func145 (by kernel_rfl)
def x145 : XFn := .go a145 2 pd5 [(.t 2)]
def d146 : FD := ⟨146, 2, [4, 2, 3, 5, 6]⟩
def a146 : CodeF := (kSeq (kReg (sH (oBox 172 1 (xT 0)) (sS 3 (xL 0) (sH (oBox 9 1 (xT 1)) (sS 4 (xL 0) (sS 2 (ki 0) sEnd))))))
 (kSeq (kRegC (fun k => (sV (oLoad (xT 3)) (sC (cFn 147) [(xL 0)] (sV (oBin .eql .no (xL 0) (ki 0)) k)))) (xL 0) (kSeq (kReg (sS 2 (ki 0) sEnd))
 kRet)
 kSkip)
 (kSeq (kReg (sV (oLoad (xT 3)) (sV (oNilc (xL 0)) (sV (oFaddr 1 (xL 0)) (sV (oLoad (xL 0)) (sV (oLenL (xL 0)) (sV (oMkfn 244 [] [(xT 3), (xT 4)]) (sC (cFn 243) [(xL 1), (xL 0)] (sV (oBin .sub .no (xL 0) (ki 1)) (sS 5 (xL 0) sEnd))))))))))
 (kSeq (kRegC (fun k => (sV (oBin .lss .no (xT 5) (ki 0)) k)) (xL 0) (kSeq (kReg (sS 2 (ki 0) sEnd))
 kRet)
 kSkip)
 (kSeq (kReg (sV (oLoad (xT 3)) (sC (cFn 245) [(xL 0), (xT 5)] (sV (oExt 0 (xL 0)) (sV (oExt 1 (xL 1)) (sS 6 (xL 1) sEnd))))))
 (kSeq (kReg (sV (oBin .mul .no (xT 5) (ki 16)) (sV (oLoad (xT 4)) (sC (cFn 246) [(xT 6), (xL 0)] (sV (oBin .add .no (xL 2) (xL 0)) (sS 2 (xL 0) sEnd))))))
 kRet))))))
theorem t146 : FF d146 Tryz.f146 a146 [(.t 2)] := ff Tryz.func146 (by kernel_rfl)
def x146 : XFn := .go a146 2 pd5 [(.t 2)]
def d147 : FD := ⟨147, 1, [2]⟩
def a147 : CodeF := (kSeq (kReg (sS 1 (ki 0) sEnd))
 (kSeq (kRegC (fun k => (sV (oBin .eql .ptr (xT 0) (xK nilptr)) k)) (xL 0) (kSeq (kReg (sS 1 (ki 0) sEnd))
 kRet)
 kSkip)
 (kSeq (kReg (sV (oNilc (xT 0)) (sV (oFaddr 2 (xL 0)) (sV (oLoad (xL 0)) (sS 1 (xL 0) sEnd)))))
 kRet)))
theorem t147 : FF d147 Tryz.f147 a147 [(.t 1)] := ff Tryz.func147 (by kernel_rfl)
def x147 : XFn := .go a147 1 pd1 [(.t 1)]
def d148 : FD := ⟨148, 2, [4, 5]⟩
def a148 : CodeF := (kSeq (kReg (sS 2 (xK (str [])) sEnd))
 (kSeq (kRegC (fun k => (sV (oBin .lss .no (xT 1) (ki 0)) (sG (xL 0) false (sV (oMov (xT 1))) (sG (xL 1) false (sV (oMov (xT 0))) (sG (xL 2) false (sC (cFn 147) [(xL 0)]) (sG (xL 3) false (sV (oBin .geq .no (xL 2) (xL 0))) (sV (oPick (xL 4) (xK (bool true)) (xL 0)) k))))))) (xL 0) (kSeq (kReg (sS 2 (xK (str [])) sEnd))
 kRet)
 kSkip)
 (kSeq (kReg (sV (oBin .quo .no (xT 1) (ki 16)) (sC (cFn 245) [(xT 0), (xL 0)] (sV (oExt 0 (xL 0)) (sV (oExt 1 (xL 1)) (sS 3 (xL 1) sEnd))))))
 (kSeq (kReg (sV (oBin .rem .no (xT 1) (ki 16)) (sV (oIaddr 1 (xT 3) (xL 0)) (sV (oLoad (xL 0)) (sS 2 (xL 0) sEnd)))))
 kRet))))
theorem t148 : FF d148 Tryz.f148 a148 [(.t 2)] := ff Tryz.func148 (by kernel_rfl)
def x148 : XFn := .go a148 2 pd2 [(.t 2)]
def d149 : FD := ⟨149, 1, [2]⟩
def a149 : CodeF := (kSeq (kReg (sS 1 (xK (bool false)) sEnd))
 (kSeq (kDraw [(.v (oMov (xT 0)), none), (.v (oBin .neq .ptr (xL 0) (xK nilptr)), none), (.v (oMov (xL 0)), none), (.v (oMov (xT 0)), (some ((xL 0), true))), (.v (oNilc (xL 0)), (some ((xL 1), true))), (.v (oFaddr 0 (xL 0)), (some ((xL 2), true))), (.v (oFaddr 1 (xL 0)), (some ((xL 3), true))), (.v (oLoad (xL 0)), (some ((xL 4), true))), (.v (oBin .geq .no (xL 0) (ki 0)), (some ((xL 5), true))), (.v (oPick (xL 6) (xL 0) (xK (bool false))), none), (.v (oMov (xL 0)), none), (.v (oMov (xT 0)), (some ((xL 0), true))), (.v (oNilc (xL 0)), (some ((xL 1), true))), (.v (oFaddr 0 (xL 0)), (some ((xL 2), true))), (.v (oFaddr 1 (xL 0)), (some ((xL 3), true))), (.v (oLoad (xL 0)), (some ((xL 4), true))), (.v (oMov (xT 0)), (some ((xL 5), true))), (.v (oNilc (xL 0)), (some ((xL 6), true))), (.v (oFaddr 0 (xL 0)), (some ((xL 7), true))), (.v (oFaddr 0 (xL 0)), (some ((xL 8), true))), (.v (oLoad (xL 0)), (some ((xL 9), true))), (.v (oLenL (xL 0)), (some ((xL 10), true))), (.v (oBin .lss .no (xL 6) (xL 0)), (some ((xL 11), true))), (.v (oPick (xL 12) (xL 0) (xK (bool false))), none), (.v (oMov (xL 0)), none)] 0 [none, (some 0)] [])
 kRet))
theorem t149 : FF d149 Tryz.f149 a149 [(.t 1)] := ff Tryz.func149 (by kernel_rfl)
def x149 : XFn := .go a149 1 pd1 [(.t 1)]
def d150 : FD := ⟨150, 1, [2, 22]⟩
def a150 : CodeF := (kSeq (kReg (sS 1 (xK (bool false)) sEnd))
 (kSeq (kSeq (kDraw [(.v (oMov (xT 0)), none), (.v (oNilc (xL 0)), none), (.v (oFaddr 2 (xL 0)), none), (.v (oLoad (xL 0)), none), (.v (oBin .eql .ptr (xL 0) (xK nilptr)), none), (.v (oMov (xL 0)), none), (.v (oMov (xT 0)), (some ((xL 0), false))), (.v (oNilc (xL 0)), (some ((xL 1), false))), (.v (oFaddr 3 (xL 0)), (some ((xL 2), false))), (.v (oLoad (xL 0)), (some ((xL 3), false))), (.v (oMov (xT 0)), (some ((xL 4), false))), (.v (oNilc (xL 0)), (some ((xL 5), false))), (.v (oFaddr 2 (xL 0)), (some ((xL 6), false))), (.v (oLoad (xL 0)), (some ((xL 7), false))), (.v (oNilc (xL 0)), (some ((xL 8), false))), (.v (oFaddr 0 (xL 0)), (some ((xL 9), false))), (.v (oLoad (xL 0)), (some ((xL 10), false))), (.v (oLenL (xL 0)), (some ((xL 11), false))), (.v (oBin .geq .no (xL 8) (xL 0)), (some ((xL 12), false))), (.v (oPick (xL 13) (xK (bool true)) (xL 0)), none)] 0 [none, none, (some 0)] [])
 (kCond (xT 2) (kSeq (kReg (sV (oNilc (xT 0)) (sV (oFaddr 0 (xL 0)) (sV (oFaddr 0 (xL 0)) (sH (oStore 1 (xL 0) (xK nils)) (sV (oNilc (xT 0)) (sV (oFaddr 0 (xL 0)) (sV (oFaddr 1 (xL 0)) (sH (oStore 1 (xL 0) (ki 0)) sEnd)))))))))
 (kSeq (kReg (sV (oNilc (xT 0)) (sV (oFaddr 3 (xL 0)) (sH (oStore 1 (xL 0) (ki 1073741824)) sEnd))))
 (kSeq (kReg (sS 1 (xK (bool false)) sEnd))
 kRet)))
 kSkip))
 (kSeq (kDraw [(.v (oMov (xT 0)), none), (.v (oMov (xT 0)), none), (.v (oNilc (xL 0)), none), (.v (oFaddr 2 (xL 0)), none), (.v (oLoad (xL 0)), none), (.v (oNilc (xL 0)), none), (.v (oFaddr 0 (xL 0)), none), (.v (oLoad (xL 0)), none), (.v (oMov (xT 0)), none), (.v (oNilc (xL 0)), none), (.v (oFaddr 3 (xL 0)), none), (.v (oLoad (xL 0)), none), (.v (oIaddr 4 (xL 4) (xL 0)), none), (.v (oLoadN 4 (xL 0)), none), (.c (cFn 247) [(xL 0)], none), (.v (oMov (xL 0)), none), (.v (oExt 0 (xL 0)), none), (.v (oExt 1 (xL 1)), none), (.v (oNilc (xL 17)), none), (.v (oFaddr 0 (xL 0)), none), (.v (oFaddr 0 (xL 0)), none), (.h (oStore 1 (xL 0) (xL 4)), none)] 0 [none, none, none] [])
 (kSeq (kReg (sV (oNilc (xT 0)) (sV (oFaddr 0 (xL 0)) (sV (oFaddr 1 (xL 0)) (sH (oStore 1 (xL 0) (ki 0)) sEnd)))))
 (kSeq (kReg (sV (oNilc (xT 0)) (sV (oFaddr 3 (xL 0)) (sV (oLoad (xL 0)) (sV (oBin .add .no (xL 0) (ki 1)) (sV (oNilc (xT 0)) (sV (oFaddr 3 (xL 0)) (sH (oStore 1 (xL 0) (xL 2)) sEnd))))))))
 (kSeq (kReg (sS 1 (xK (bool true)) sEnd))
 kRet))))))
theorem t150 : FF d150 Tryz.f150 a150 [(.t 1)] := ff Tryz.func150 (by kernel_rfl)
def x150 : XFn := .go a150 1 pd2 [(.t 1)]
def d151 : FD := ⟨151, 2, [4, 3, 2]⟩
def a151 : CodeF := (kSeq (kReg (sH (oBox 110 7 (xT 0)) (sS 4 (xL 0) (sH (oBox 110 7 (xT 1)) (sS 3 (xL 0) (sS 2 (xK (bool false)) sEnd))))))
 (kSeq (kReg (sV (oFaddr 2 (xT 4)) (sV (oLoad (xL 0)) (sV (oFaddr 2 (xT 3)) (sV (oLoad (xL 0)) (sC (cFn 138) [(xL 2), (xL 0)] (sG (xL 0) true (sV (oFaddr 0 (xT 4))) (sG (xL 1) true (sV (oLoad (xL 0))) (sG (xL 2) true (sV (oFaddr 0 (xT 3))) (sG (xL 3) true (sV (oLoad (xL 0))) (sG (xL 4) true (sV (oBin .eql .no (xL 2) (xL 0))) (sV (oPick (xL 5) (xL 0) (xK (bool false))) (sG (xL 0) true (sV (oFaddr 1 (xT 4))) (sG (xL 1) true (sV (oLoad (xL 0))) (sG (xL 2) true (sV (oFaddr 1 (xT 3))) (sG (xL 3) true (sV (oLoad (xL 0))) (sG (xL 4) true (sV (oBin .eql .no (xL 2) (xL 0))) (sV (oPick (xL 5) (xL 0) (xK (bool false))) (sG (xL 0) true (sV (oFaddr 3 (xT 4))) (sG (xL 1) true (sV (oLoad (xL 0))) (sG (xL 2) true (sV (oFaddr 3 (xT 3))) (sG (xL 3) true (sV (oLoad (xL 0))) (sG (xL 4) true (sV (oBin .eql .no (xL 2) (xL 0))) (sV (oPick (xL 5) (xL 0) (xK (bool false))) (sG (xL 0) true (sV (oFaddr 4 (xT 4))) (sG (xL 1) true (sV (oLoad (xL 0))) (sG (xL 2) true (sV (oFaddr 4 (xT 3))) (sG (xL 3) true (sV (oLoad (xL 0))) (sG (xL 4) true (sV (oBin .eql .no (xL 2) (xL 0))) (sV (oPick (xL 5) (xL 0) (xK (bool false))) (sG (xL 0) true (sV (oFaddr 5 (xT 4))) (sG (xL 1) true (sV (oLoad (xL 0))) (sG (xL 2) true (sV (oFaddr 5 (xT 3))) (sG (xL 3) true (sV (oLoad (xL 0))) (sG (xL 4) true (sV (oBin .eql .bool (xL 2) (xL 0))) (sV (oPick (xL 5) (xL 0) (xK (bool false))) (sG (xL 0) true (sV (oFaddr 6 (xT 4))) (sG (xL 1) true (sV (oLoad (xL 0))) (sG (xL 2) true (sV (oFaddr 6 (xT 3))) (sG (xL 3) true (sV (oLoad (xL 0))) (sG (xL 4) true (sV (oBin .eql .bool (xL 2) (xL 0))) (sV (oPick (xL 5) (xL 0) (xK (bool false))) (sS 2 (xL 0) sEnd)))))))))))))))))))))))))))))))))))))))))))
 kRet))
theorem t151 : FF d151 Tryz.f151 a151 [(.t 2)] := ff Tryz.func151 (by kernel_rfl)
def x151 : XFn := .go a151 2 pd3 [(.t 2)]
def d152 : FD := ⟨152, 2, [4, 6, 7, 2, 5]⟩
def a152 : CodeF := (kSeq (kReg (sH (oBox 126 1 (xT 0)) (sS 5 (xL 0) (sS 2 (xK nils) sEnd))))
 (kSeq (kSeq (kReg (sS 3 (xT 1) sEnd))
 (kBlock 0 (kRf 16779658 [4] (xT 3))))
 (kSeq (kReg (sV (oLoad (xT 5)) (sS 2 (xL 0) sEnd)))
 kRet)))
theorem t152 : FF d152 Tryz.f152 a152 [(.t 2)] := ff Tryz.func152 (by kernel_rfl)
def x152 : XFn := .go a152 2 pd5 [(.t 2)]
def r152x0 : CodeF × CodeF := ((kReg (sH (oAlloc 130 3 [(int .i64 (.ofNat 0)), (int .i64 (.ofNat 0)), (int .u64 (.ofNat 0))]) (sS 6 (xL 0) (sH (oStore 3 (xT 6) (xT 4)) sEnd)))),
 (kBlock 1 (kReg (sV (oLoad (xT 5)) (sV (oLoadN 3 (xT 6)) (sH (oBsl 130 3 1 [(int .i64 (.ofNat 0)), (int .i64 (.ofNat 0)), (int .u64 (.ofNat 0))] [(0, 3, (xL 0))]) (sH (oApp 130 3 (xL 2) (xL 0)) (sH (oStore 1 (xT 5) (xL 0)) sEnd))))))))
theorem u152x0 : RfFact Tryz.prog d152 Tryz.f152 16779658 r152x0 := ⟨Tryz.func152, by kernel_rfl⟩
def d153 : FD := ⟨153, 3, [12, 13, 14, 11, 5, 6, 7, 4, 8, 73]⟩
def a153 : CodeF := (kSeq (kReg (sV (oBuild [nils] []) (sH (oBox 280 1 (xL 0)) (sS 10 (xL 0) sEnd))))
 (kSeq (kSeq (kReg (sV (oLoad (xT 1)) (sS 6 (xL 0) (sV (oLenL (xT 6)) (sS 3 (xL 0) (sS 4 (ki 0) sEnd))))))
 (kBlock 0 (kLoop (kSeq (kReg (sV (oBin .lss .no (xT 4) (xT 3)) (sS 5 (xL 0) sEnd)))
 (kSeq (kCond (xT 5) kSkip
 (kExit 0))
 (kSeq (kBlock 1 (kSeq (kReg (sV (oIaddr 1 (xT 6) (xT 4)) (sV (oLoad (xL 0)) (sS 7 (xT 4) (sS 8 (xL 0) sEnd)))))
 (kSeq (kReg (sV (oLoad (xT 2)) (sV (oIaddr 1 (xL 0) (xT 7)) (sV (oLoad (xL 0)) (sC (cFn 154) [(xT 8), (xL 0), (xT 7)] (sH (oAlloc 282 3 [nils, nils, (int .i64 (.ofNat 0))]) (sS 9 (xL 0) (sH (oStore 3 (xT 9) (xL 1)) sEnd))))))))
 (kRegC (fun k => (sV (oFaddr 1 (xT 9)) (sV (oLoad (xL 0)) (sV (oLenL (xL 0)) (sV (oBin .gtr .no (xL 0) (ki 0)) k))))) (xL 0) (kDraw [(.v (oMov (xT 10)), none), (.v (oMov (xT 10)), none), (.v (oNilc (xL 0)), none), (.v (oFaddr 0 (xL 0)), none), (.v (oLoad (xL 0)), none), (.v (oLoadN 3 (xT 9)), none), (.h (oBsl 282 3 1 [nils, nils, (int .i64 (.ofNat 0))] [(0, 3, (xL 0))]), none), (.h (oApp 282 3 (xL 2) (xL 0)), none), (.v (oNilc (xL 7)), none), (.v (oFaddr 0 (xL 0)), none), (.h (oStore 1 (xL 0) (xL 2)), none)] 0 [none, none, none, none, none, none, none, none, none, none, none, none, none] [(6, 4)])
 kSkip))))
 (kReg (sV (oBin .add .no (xT 4) (ki 1)) (sS 4 (xL 0) sEnd)))))))))
 (kSeq (kReg (sV (oMkif 276 (xT 10)) (sC (cFn 155) [(xL 0)] sEnd)))
 (kBlock 2 (kLoop (kSeq (kRegC (fun k => (sV (oNilc (xT 10)) (sV (oFaddr 0 (xL 0)) (sV (oLoad (xL 0)) (sC (cFn 156) [(xL 0)] (sV (oBin .gtr .no (xL 0) (ki 0)) k)))))) (xL 0) kSkip
 (kExit 2))
 (kBlock 3 (kSeq (kReg (sV (oNilc (xT 10)) (sV (oFaddr 0 (xL 0)) (sV (oLoad (xL 0)) (sV (oIaddr 3 (xL 0) (ki 0)) (sS 11 (xL 0) sEnd))))))
 (kSeq (kSeq (kDraw [(.v (oMov (xT 0)), none), (.v (oMov (xT 11)), none), (.v (oNilc (xL 0)), none), (.v (oFaddr 2 (xL 0)), none), (.v (oLoad (xL 0)), none), (.v (oMov (xT 11)), none), (.v (oNilc (xL 0)), none), (.v (oFaddr 1 (xL 0)), none), (.v (oLoad (xL 0)), none), (.v (oIaddr 1 (xL 0) (ki 0)), none), (.v (oLoad (xL 0)), none), (.v (oMov (xT 11)), none), (.v (oNilc (xL 0)), none), (.v (oFaddr 0 (xL 0)), none), (.v (oLoad (xL 0)), none), (.v (oIaddr 1 (xL 0) (ki 0)), none), (.v (oLoad (xL 0)), none), (.v (oBuild [(int .i64 (.ofNat 0)), (int .i64 (.ofNat 0)), (int .u64 (.ofNat 0))] [(0, 1, (xL 12)), (1, 1, (xL 6)), (2, 1, (xL 0))]), none), (.c (cVal (xL 17)) [(xL 0)], none), (.v (oUn .not (xL 0)), none)] 0 [none, none, none, none, none, none, none, none, none, none, none, none, (some 0)] [])
 (kCond (xT 12) kRet
 kSkip))
 (kSeq (kDraw [(.v (oMov (xT 11)), none), (.v (oMov (xT 11)), none), (.v (oMov (xT 11)), none), (.v (oNilc (xL 0)), none), (.v (oFaddr 1 (xL 0)), none), (.v (oLoad (xL 0)), none), (.v (oSlc 1 (xL 0) (some (ki 1)) none none), none), (.v (oMov (xT 11)), none), (.v (oNilc (xL 0)), none), (.v (oFaddr 0 (xL 0)), none), (.v (oLoad (xL 0)), none), (.v (oSlc 1 (xL 0) (some (ki 1)) none none), none), (.v (oNilc (xL 11)), none), (.v (oFaddr 1 (xL 0)), none), (.h (oStore 1 (xL 0) (xL 7)), none), (.v (oNilc (xL 13)), none), (.v (oFaddr 0 (xL 0)), none), (.h (oStore 1 (xL 0) (xL 5)), none)] 0 [none, none, none, none, none, none, none, none, none, none, none, none, none] [])
 (kRegC (fun k => (sV (oNilc (xT 11)) (sV (oFaddr 1 (xL 0)) (sV (oLoad (xL 0)) (sV (oLenL (xL 0)) (sV (oBin .eql .no (xL 0) (ki 0)) k)))))) (xL 0) (kReg (sV (oMkif 276 (xT 10)) (sC (cFn 157) [(xL 0)] sEnd)))
 (kReg (sV (oMkif 276 (xT 10)) (sC (cFn 158) [(xL 0), (ki 0)] sEnd))))))))))))))
theorem t153 : FF d153 Tryz.f153 a153 [] := ff Tryz.func153 (by kernel_rfl)
def x153 : XFn := .go a153 3 pd10 []
def d154 : FD := ⟨154, 3, [6, 15, 16, 7, 9, 8]⟩
def a154 : CodeF := (kSeq (kReg (sH (oAlloc 282 3 [nils, nils, (int .i64 (.ofNat 0))]) (sS 3 (xL 0) sEnd)))
 (kSeq (kReg (sV (oBuild [nils, nils, (int .i64 (.ofNat 0))] [(2, 1, (xT 2))]) (sH (oAlloc 282 3 [nils, nils, (int .i64 (.ofNat 0))]) (sS 6 (xL 0) (sH (oStore 3 (xT 6) (xL 1)) sEnd)))))
 (kSeq (kReg (sC (cFn 38) [(xT 0)] (sH (oAlloc 64 1 [nils]) (sS 8 (xL 0) (sH (oStore 1 (xT 8) (xL 1)) sEnd)))))
 (kSeq (kSeq (kReg (sC (cFn 47) [(xT 1)] (sS 4 (xL 0) sEnd)))
 (kBlock 0 (kRf 67118778 [5] (xT 4))))
 (kSeq (kReg (sV (oLoadN 3 (xT 6)) (sH (oStore 3 (xT 3) (xL 0)) sEnd)))
 kRet)))))
theorem t154 : FF d154 Tryz.f154 a154 [(.cell 3 (some 3))] := ff Tryz.func154 (by kernel_rfl)
def x154 : XFn := .go a154 3 pd6 [(.cell 3 (some 3))]
def r154x0 : CodeF × CodeF := ((kReg (sS 7 (xT 5) sEnd)),
 (kBlock 1 (kSeq (kReg (sV (oFaddr 1 (xT 6)) (sV (oLoad (xL 0)) (sH (oBsl 3 1 1 [(int .i64 (.ofNat 0))] [(0, 1, (xT 7))]) (sH (oApp 3 1 (xL 1) (xL 0)) (sV (oFaddr 1 (xT 6)) (sH (oStore 1 (xL 0) (xL 1)) sEnd)))))))
 (kDraw [(.v (oFaddr 0 (xT 6)), none), (.v (oLoad (xL 0)), none), (.v (oLoad (xT 8)), none), (.v (oMov (xT 7)), none), (.v (oIaddr 1 (xL 1) (xL 0)), none), (.v (oLoad (xL 0)), none), (.h (oBsl 26 1 1 [(int .u64 (.ofNat 0))] [(0, 1, (xL 0))]), none), (.h (oApp 26 1 (xL 5) (xL 0)), none), (.v (oFaddr 0 (xT 6)), none), (.h (oStore 1 (xL 0) (xL 1)), none)] 0 [none, none, none, none, none, none, none, none, none] [(8, 3)]))))
theorem u154x0 : RfFact Tryz.prog d154 Tryz.f154 67118778 r154x0 := ⟨Tryz.func154, by kernel_rfl⟩
def d155 : FD := ⟨155, 1, [2, 3]⟩
def a155 : CodeF := (kSeq (kReg (sC (cMeth [(17, 475, [], true), (80, 37, [], true), (86, 74, [], true), (138, 100, [], true), (172, 147, [], true), (174, 270, [], true), (175, 481, [], true), (176, 483, [], true), (181, 484, [], true), (276, 156, [0], false), (278, 156, [], true), (436, 330, [], true), (477, 311, [], true)] (xT 0)) [] (sS 1 (xL 0) sEnd)))
 (kSeq (kReg (sV (oBin .quo .no (xT 1) (ki 2)) (sV (oBin .sub .no (xL 0) (ki 1)) (sS 2 (xL 0) sEnd))))
 (kBlock 0 (kLoop (kSeq (kRegC (fun k => (sV (oBin .geq .no (xT 2) (ki 0)) k)) (xL 0) kSkip
 (kExit 0))
 (kSeq (kBlock 1 (kReg (sC (cFn 248) [(xT 0), (xT 2), (xT 1)] sEnd)))
 (kReg (sV (oMov (xT 2)) (sV (oBin .sub .no (xL 0) (ki 1)) (sS 2 (xL 0) sEnd))))))))))
theorem t155 : FF d155 Tryz.f155 a155 [] := ff Tryz.func155 (by kernel_rfl)
def x155 : XFn := .go a155 1 pd2 []
def d156 : FD := ⟨156, 1, [2]⟩
def a156 : CodeF := (kSeq (kReg (sS 1 (ki 0) sEnd))
 (kSeq (kReg (sV (oLenL (xT 0)) (sS 1 (xL 0) sEnd)))
 kRet))
theorem t156 : FF d156 Tryz.f156 a156 [(.t 1)] := ff Tryz.func156 (by kernel_rfl)
def x156 : XFn := .go a156 1 pd1 [(.t 1)]
def d157 : FD := ⟨157, 1, [2, 3]⟩
def a157 : CodeF := (kSeq (kReg (sS 1 (xK nilif) sEnd))
 (kSeq (kReg (sC (cMeth [(17, 475, [], true), (80, 37, [], true), (86, 74, [], true), (138, 100, [], true), (172, 147, [], true), (174, 270, [], true), (175, 481, [], true), (176, 483, [], true), (181, 484, [], true), (276, 156, [0], false), (278, 156, [], true), (436, 330, [], true), (477, 311, [], true)] (xT 0)) [] (sV (oBin .sub .no (xL 0) (ki 1)) (sS 2 (xL 0) sEnd))))
 (kSeq (kReg (sC (cMeth [(276, 487, [0], false), (278, 487, [], true)] (xT 0)) [(ki 0), (xT 2)] sEnd))
 (kSeq (kReg (sC (cFn 248) [(xT 0), (ki 0), (xT 2)] sEnd))
 (kSeq (kReg (sC (cMeth [(276, 486, [], true)] (xT 0)) [] (sS 1 (xL 0) sEnd)))
 kRet)))))
theorem t157 : FF d157 Tryz.f157 a157 [(.t 1)] := ff Tryz.func157 (by kernel_rfl)
def x157 : XFn := .go a157 1 pd2 [(.t 1)]
def d160 : FD := ⟨160, 2, [4, 5, 8, 6, 10, 7, 11, 9, 12, 13]⟩
def a160 : CodeF := (kSeq (kReg (sS 2 (xK (int .u64 (.ofNat 0))) (sS 3 (xK (int .u64 (.ofNat 0))) sEnd)))
 (kSeq (kReg (sV (oBin .and .no (xT 0) (xK (int .u64 (.ofNat 4294967295)))) (sS 5 (xL 0) sEnd)))
 (kSeq (kReg (sV (oBin .shr .no (xT 0) (xK (int .u64 (.ofNat 32)))) (sS 7 (xL 0) sEnd)))
 (kSeq (kReg (sV (oBin .and .no (xT 1) (xK (int .u64 (.ofNat 4294967295)))) (sS 4 (xL 0) sEnd)))
 (kSeq (kReg (sV (oBin .shr .no (xT 1) (xK (int .u64 (.ofNat 32)))) (sS 9 (xL 0) sEnd)))
 (kSeq (kReg (sV (oBin .mul .no (xT 5) (xT 4)) (sS 6 (xL 0) sEnd)))
 (kSeq (kReg (sV (oBin .mul .no (xT 7) (xT 4)) (sV (oBin .shr .no (xT 6) (xK (int .u64 (.ofNat 32)))) (sV (oBin .add .no (xL 1) (xL 0)) (sS 8 (xL 0) sEnd)))))
 (kSeq (kReg (sV (oBin .and .no (xT 8) (xK (int .u64 (.ofNat 4294967295)))) (sS 10 (xL 0) sEnd)))
 (kSeq (kReg (sV (oBin .shr .no (xT 8) (xK (int .u64 (.ofNat 32)))) (sS 11 (xL 0) sEnd)))
 (kSeq (kReg (sV (oMov (xT 10)) (sV (oBin .mul .no (xT 5) (xT 9)) (sV (oBin .add .no (xL 1) (xL 0)) (sS 10 (xL 0) sEnd)))))
 (kSeq (kReg (sV (oBin .mul .no (xT 7) (xT 9)) (sV (oBin .add .no (xL 0) (xT 11)) (sV (oBin .shr .no (xT 10) (xK (int .u64 (.ofNat 32)))) (sV (oBin .add .no (xL 1) (xL 0)) (sS 2 (xL 0) sEnd))))))
 (kSeq (kReg (sV (oBin .mul .no (xT 0) (xT 1)) (sS 3 (xL 0) sEnd)))
 kRet))))))))))))
theorem t160 : FF d160 Tryz.f160 a160 [(.t 2), (.t 3)] := ff Tryz.func160 (by kernel_rfl)
def x160 : XFn := .go a160 2 pd10 [(.t 2), (.t 3)]
def d161 : FD := ⟨161, 2, [4, 3, 6, 8, 7, 5]⟩
def a161 : CodeF := (kSeq (kReg (sV (oFaddr 2 (xT 1)) (sV (oLoad (xL 0)) (sC (cFn 116) [(xL 0)] (sS 3 (xL 0) sEnd)))))
 (kSeq (kSeq (kReg (sV (oFaddr 0 (xT 1)) (sV (oLoad (xL 0)) (sS 2 (xL 0) sEnd))))
 (kBlock 0 (kLoop (kSeq (kRegC (fun k => (sV (oFaddr 1 (xT 1)) (sV (oLoad (xL 0)) (sV (oBin .lss .no (xT 2) (xL 0)) k)))) (xL 0) kSkip
 (kExit 0))
 (kSeq (kBlock 1 (kSeq (kReg (sS 7 (xK nils) sEnd))
 (kSeq (kSeq (kReg (sC (cFn 117) [(xT 3), (ki 64)] (sS 4 (xL 0) sEnd)))
 (kBlock 2 (kLoop (kSeq (kRegC (fun k => (sV (oBin .gtr .no (xT 4) (ki 0)) k)) (xL 0) kSkip
 (kExit 2))
 (kSeq (kBlock 3 (kSeq (kReg (sC (cFn 162) [(xT 3), (ki 24)] (sC (cFn 162) [(xT 3), (ki 4096)] (sV (oBuild [(str []), (str []), nils] [(0, 1, (xL 1)), (1, 1, (xL 0))]) (sH (oAlloc 50 3 [(str []), (str []), nils]) (sS 6 (xL 0) (sH (oStore 3 (xT 6) (xL 1)) sEnd)))))))
 (kSeq (kSeq (kReg (sC (cFn 117) [(xT 3), (ki 4)] (sS 5 (xL 0) sEnd)))
 (kBlock 4 (kLoop (kSeq (kRegC (fun k => (sV (oBin .gtr .no (xT 5) (ki 0)) k)) (xL 0) kSkip
 (kExit 4))
 (kSeq (kBlock 5 (kDraw [(.v (oFaddr 2 (xT 6)), none), (.v (oLoad (xL 0)), none), (.v (oMov (xT 3)), none), (.c (cFn 163) [(xL 0)], none), (.h (oBsl 2 1 1 [(int .i64 (.ofNat 0))] [(0, 1, (xL 0))]), none), (.h (oApp 2 1 (xL 3) (xL 0)), none), (.v (oFaddr 2 (xT 6)), none), (.h (oStore 1 (xL 0) (xL 1)), none)] 0 [none, none, none, none, none, none, none, none] [(6, 4), (6, 3)]))
 (kReg (sV (oMov (xT 5)) (sV (oBin .sub .no (xL 0) (ki 1)) (sS 5 (xL 0) sEnd)))))))))
 (kSeq (kReg (sC (cFn 164) [(xT 3), (xK (bool true))] sEnd))
 (kReg (sV (oMov (xT 7)) (sV (oLoadN 3 (xT 6)) (sH (oBsl 50 3 1 [(str []), (str []), nils] [(0, 3, (xL 0))]) (sH (oApp 50 3 (xL 2) (xL 0)) (sS 7 (xL 0) sEnd))))))))))
 (kReg (sV (oMov (xT 4)) (sV (oBin .sub .no (xL 0) (ki 1)) (sS 4 (xL 0) sEnd)))))))))
 (kSeq (kReg (sC (cFn 164) [(xT 3), (xK (bool true))] sEnd))
 (kRegC (fun k => (sC (cVal (xT 0)) [(xT 2), (xT 7)] (sV (oUn .not (xL 0)) k))) (xL 0) kRet
 kSkip)))))
 (kReg (sV (oMov (xT 2)) (sV (oBin .add .no (xL 0) (ki 1)) (sS 2 (xL 0) sEnd)))))))))
 (kReg (sC (cFn 120) [(xT 3)] (sV (oBin .eql .no (xL 0) (ki 0)) (sC (cFn 164) [(xT 3), (xL 0)] sEnd))))))
theorem t161 : FF d161 Tryz.f161 a161 [] := ff Tryz.func161 (by kernel_rfl)
def x161 : XFn := .go a161 2 pd6 []
def d162 : FD := ⟨162, 2, [4, 3, 2]⟩
def a162 : CodeF := (kSeq (kReg (sH (oBox 233 1 (xT 0)) (sS 4 (xL 0) (sH (oBox 3 1 (xT 1)) (sS 3 (xL 0) (sS 2 (xK (str [])) sEnd))))))
 (kSeq (kReg (sV (oLoad (xT 4)) (sV (oMkfn 251 [] [(xT 4), (xT 3)]) (sC (cFn 250) [(xL 1), (xL 0)] (sS 2 (xL 0) sEnd)))))
 kRet))
theorem t162 : FF d162 Tryz.f162 a162 [(.t 2)] := ff Tryz.func162 (by kernel_rfl)
def x162 : XFn := .go a162 2 pd3 [(.t 2)]
def d163 : FD := ⟨163, 1, [2, 3]⟩
def a163 : CodeF := (kSeq (kReg (sS 1 (ki 0) sEnd))
 (kSeq (kReg (sV (oMkfn 189 [(xT 0)] []) (sC (cFn 252) [(xT 0), (xL 0)] (sS 2 (xL 0) sEnd))))
 (kSeq (kReg (sV (oBin .shr .no (xT 2) (xK (int .u64 (.ofNat 1)))) (sV (oConv .i64 (xL 0)) (sV (oBin .and .no (xT 2) (xK (int .u64 (.ofNat 1)))) (sV (oConv .i64 (xL 0)) (sV (oUn .neg (xL 0)) (sV (oBin .xor .no (xL 3) (xL 0)) (sS 1 (xL 0) sEnd))))))))
 kRet)))
theorem t163 : FF d163 Tryz.f163 a163 [(.t 1)] := ff Tryz.func163 (by kernel_rfl)
def x163 : XFn := .go a163 1 pd2 [(.t 1)]
def d164 : FD := ⟨164, 2, []⟩
def a164 : CodeF := (kRegC (fun k => (sC (cFn 122) [(xT 0)] (sV (oBin .neq .no (xL 0) (ki 0)) (sG (xL 0) false (sV (oMov (xT 1))) (sG (xL 1) false (sV (oUn .not (xL 0))) (sV (oPick (xL 2) (xK (bool true)) (xL 0)) k)))))) (xL 0) (kReg (sV (oBuild [] []) (sV (oMkif 333 (xL 0)) (sPan (xL 0)))))
 kSkip)
theorem t164 : FF d164 Tryz.f164 a164 [] := ff Tryz.func164 (by kernel_rfl)
def x164 : XFn := .go a164 2 pd0 []
def d165 : FD := ⟨165, 1, [2]⟩
def a165 : CodeF := (kSeq (kReg (sS 1 (xK nils) sEnd))
 (kSeq (kReg (sV (oLenL (xT 0)) (sV (oLenL (xT 0)) (sV (oSlc 1 (xT 0) none (some (xL 1)) (some (xL 0))) (sS 1 (xL 0) sEnd)))))
 kRet))
theorem t165 : FF d165 Tryz.f165 a165 [(.t 1)] := ff Tryz.func165 (by kernel_rfl)
def x165 : XFn := .go a165 1 pd1 [(.t 1)]
def d167 : FD := ⟨167, 3, [12, 13, 14, 11, 8, 6, 29, 30, 31, 28, 10]⟩
def a167 : CodeF := (kSeq (kReg (sS 8 (xK nils) sEnd))
 (kSeq (kSeq (kReg (sS 6 (xT 2) (sV (oLenL (xT 6)) (sS 3 (xL 0) (sS 4 (ki 0) sEnd)))))
 (kBlock 0 (kLoop (kSeq (kReg (sV (oBin .lss .no (xT 4) (xT 3)) (sS 5 (xL 0) sEnd)))
 (kSeq (kCond (xT 5) kSkip
 (kExit 0))
 (kSeq (kBlock 1 (kSeq (kReg (sV (oIaddr 3 (xT 6) (xT 4)) (sV (oLoadN 3 (xL 0)) (sH (oAlloc 163 3 [(int .i64 (.ofNat 0)), (str []), nils]) (sS 7 (xL 0) (sH (oStore 3 (xT 7) (xL 1)) sEnd))))))
 (kReg (sV (oMov (xT 8)) (sV (oFaddr 1 (xT 7)) (sV (oLoad (xL 0)) (sH (oBsl 9 1 1 [(str [])] [(0, 1, (xL 0))]) (sH (oApp 9 1 (xL 3) (xL 0)) (sS 8 (xL 0) sEnd)))))))))
 (kReg (sV (oBin .add .no (xT 4) (ki 1)) (sS 4 (xL 0) sEnd)))))))))
 (kSeq (kReg (sC (cFn 255) [(xT 8)] sEnd))
 (kSeq (kReg (sV (oMov (xT 8)) (sC (cFn 256) [(xL 0)] (sC (cFn 175) [(xL 0)] (sS 8 (xL 0) sEnd)))))
 (kSeq (kSeq (kReg (sS 12 (xT 8) (sV (oLenL (xT 12)) (sS 9 (xL 0) (sS 10 (ki 0) sEnd)))))
 (kBlock 2 (kLoop (kSeq (kReg (sV (oBin .lss .no (xT 10) (xT 9)) (sS 11 (xL 0) sEnd)))
 (kSeq (kCond (xT 11) kSkip
 (kExit 2))
 (kSeq (kBlock 3 (kSeq (kReg (sV (oIaddr 1 (xT 12) (xT 10)) (sV (oLoad (xL 0)) (sS 13 (xL 0) sEnd))))
 (kReg (sC (cFn 254) [(xT 0), (xT 13), (xT 1), (ki 0)] sEnd))))
 (kReg (sV (oBin .add .no (xT 10) (ki 1)) (sS 10 (xL 0) sEnd)))))))))
 (kReg (sV (oNilc (xT 0)) (sV (oFaddr 0 (xL 0)) (sV (oFaddr 3 (xL 0)) (sV (oLoad (xL 0)) (sH (oBsl 210 1 1 [nils] [(0, 1, (xT 8))]) (sH (oApp 210 1 (xL 1) (xL 0)) (sV (oNilc (xT 0)) (sV (oFaddr 0 (xL 0)) (sV (oFaddr 3 (xL 0)) (sH (oStore 1 (xL 0) (xL 3)) sEnd))))))))))))))))
theorem t167 : FF d167 Tryz.f167 a167 [] := ff Tryz.func167 (by kernel_rfl)
def x167 : XFn := .go a167 3 pd11 []
def d170 : FD := ⟨170, 1, [2, 3]⟩
def a170 : CodeF := (kSeq (kReg (sS 1 (xK nils) sEnd))
 (kSeq (kReg (sC (cFn 258) [(xT 0)] (sS 2 (xL 0) sEnd)))
 (kSeq (kReg (sC (cFn 255) [(xT 2)] sEnd))
 (kSeq (kReg (sS 1 (xT 2) sEnd))
 kRet))))
theorem t170 : FF d170 Tryz.f170 a170 [(.t 1)] := ff Tryz.func170 (by kernel_rfl)
def x170 : XFn := .mrg a170 1 pd2 [(.t 1)]
def d171 : FD := ⟨171, 1, [2, 1]⟩
def a171 : CodeF := (kSeq (kReg (sH (oBox 209 1 (xT 0)) (sS 2 (xL 0) (sS 1 (xK nilfunc) sEnd))))
 (kSeq (kReg (sV (oMkfn 259 [] [(xT 2)]) (sS 1 (xL 0) sEnd)))
 kRet))
theorem t171 : FF d171 Tryz.f171 a171 [(.t 1)] := ff Tryz.func171 (by kernel_rfl)
def x171 : XFn := .go a171 1 pd2 [(.t 1)]
def d172 : FD := ⟨172, 1, [2, 3]⟩
def a172 : CodeF := (kSeq (kReg (sS 1 (xK nils) sEnd))
 (kSeq (kReg (sC (cFn 260) [(xT 0)] (sS 2 (xL 0) sEnd)))
 (kSeq (kReg (sC (cFn 261) [(xT 2)] sEnd))
 (kSeq (kReg (sS 1 (xT 2) sEnd))
 kRet))))
theorem t172 : FF d172 Tryz.f172 a172 [(.t 1)] := ff Tryz.func172 (by kernel_rfl)
def x172 : XFn := .go a172 1 pd2 [(.t 1)]
def d173 : FD := ⟨173, 1, [2, 1]⟩
def a173 : CodeF := (kSeq (kReg (sH (oBox 301 1 (xT 0)) (sS 2 (xL 0) (sS 1 (xK nilfunc) sEnd))))
 (kSeq (kReg (sV (oMkfn 262 [] [(xT 2)]) (sS 1 (xL 0) sEnd)))
 kRet))
theorem t173 : FF d173 Tryz.f173 a173 [(.t 1)] := ff Tryz.func173 (by kernel_rfl)
def x173 : XFn := .go a173 1 pd2 [(.t 1)]
def d174 : FD := ⟨174, 1, [2]⟩
def a174 : CodeF := (kSeq (kReg (sS 1 (xK nils) sEnd))
 (kSeq (kReg (sV (oLenL (xT 0)) (sV (oLenL (xT 0)) (sV (oSlc 2 (xT 0) none (some (xL 1)) (some (xL 0))) (sS 1 (xL 0) sEnd)))))
 kRet))
theorem t174 : FF d174 Tryz.f174 a174 [(.t 1)] := ff Tryz.func174 (by kernel_rfl)
def x174 : XFn := .go a174 1 pd1 [(.t 1)]
def d175 : FD := ⟨175, 1, [2]⟩
def a175 : CodeF := (kSeq (kReg (sS 1 (xK nils) sEnd))
 (kSeq (kReg (sV (oLenL (xT 0)) (sV (oLenL (xT 0)) (sV (oSlc 1 (xT 0) none (some (xL 1)) (some (xL 0))) (sS 1 (xL 0) sEnd)))))
 kRet))
theorem t175 : FF d175 Tryz.f175 a175 [(.t 1)] := ff Tryz.func175 (by kernel_rfl)
def x175 : XFn := .go a175 1 pd1 [(.t 1)]
def d176 : FD := ⟨176, 1, [2]⟩
def a176 : CodeF := (kSeq (kReg (sS 1 (xK nils) sEnd))
 (kSeq (kReg (sV (oLenL (xT 0)) (sV (oLenL (xT 0)) (sV (oSlc 1 (xT 0) none (some (xL 1)) (some (xL 0))) (sS 1 (xL 0) sEnd)))))
 kRet))
theorem t176 : FF d176 Tryz.f176 a176 [(.t 1)] := ff Tryz.func176 (by kernel_rfl)
def x176 : XFn := .go a176 1 pd1 [(.t 1)]
end
end Go.Proofs.YtobnfiiladkllaaGreatDoor
