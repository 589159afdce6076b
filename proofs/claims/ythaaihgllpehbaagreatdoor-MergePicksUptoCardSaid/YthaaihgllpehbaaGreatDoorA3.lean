import Derived.Test.YthaaihgllpehbaaGreatDoorP
import Derived.Test.YthaaihgllpehbaaGreatDoorProg
import Derived.KernelRfl
/- The functions of the program as the interpreter has them; each is the program's, by the kernel. -/
set_option maxRecDepth 1000000
namespace Go.Proofs.YthaaihgllpehbaaGreatDoor
open Go Go.Ai AVal
noncomputable section
def d119 : FD := ⟨119, 1, [2, 3]⟩
def a119 : CodeF := (kSeq (kReg (sS 1 (xK nils) sEnd))
 (kSeq (kReg (sC (cFn 186) [(xT 0)] (sS 2 (xL 0) sEnd)))
 (kSeq (kReg (sC (cFn 187) [(xT 2)] sEnd))
 (kSeq (kReg (sS 1 (xT 2) sEnd))
 kRet))))
theorem t119 : FF d119 Tryz.f119 a119 [(.t 1)] := ff Tryz.func119 (by kernel_rfl)
def x119 : XFn := .go a119 1 pd2 [(.t 1)]
def d120 : FD := ⟨120, 1, [2, 1]⟩
def a120 : CodeF := (kSeq (kReg (sH (oBox 219 1 (xT 0)) (sS 2 (xL 0) (sS 1 (xK nilfunc) sEnd))))
 (kSeq (kReg (sV (oMkfn 188 [] [(xT 2)]) (sS 1 (xL 0) sEnd)))
 kRet))
theorem t120 : FF d120 Tryz.f120 a120 [(.t 1)] := ff Tryz.func120 (by kernel_rfl)
def x120 : XFn := .go a120 1 pd2 [(.t 1)]
def d121 : FD := ⟨121, 1, [2]⟩
def a121 : CodeF := (kSeq (kReg (sS 1 (xK nils) sEnd))
 (kSeq (kReg (sV (oLenL (xT 0)) (sV (oLenL (xT 0)) (sV (oSlc 2 (xT 0) none (some (xL 1)) (some (xL 0))) (sS 1 (xL 0) sEnd)))))
 kRet))
theorem t121 : FF d121 Tryz.f121 a121 [(.t 1)] := ff Tryz.func121 (by kernel_rfl)
def x121 : XFn := .go a121 1 pd1 [(.t 1)]
def d122 : FD := ⟨122, 1, [2]⟩
def a122 : CodeF := (kSeq (kReg (sS 1 (xK nils) sEnd))
 (kSeq (kReg (sV (oLenL (xT 0)) (sV (oLenL (xT 0)) (sV (oSlc 1 (xT 0) none (some (xL 1)) (some (xL 0))) (sS 1 (xL 0) sEnd)))))
 kRet))
theorem t122 : FF d122 Tryz.f122 a122 [(.t 1)] := ff Tryz.func122 (by kernel_rfl)
def x122 : XFn := .go a122 1 pd1 [(.t 1)]
def d123 : FD := ⟨123, 1, [2]⟩
def a123 : CodeF := (kSeq (kReg (sS 1 (xK nils) sEnd))
 (kSeq (kReg (sV (oLenL (xT 0)) (sV (oLenL (xT 0)) (sV (oSlc 1 (xT 0) none (some (xL 1)) (some (xL 0))) (sS 1 (xL 0) sEnd)))))
 kRet))
theorem t123 : FF d123 Tryz.f123 a123 [(.t 1)] := ff Tryz.func123 (by kernel_rfl)
def x123 : XFn := .go a123 1 pd1 [(.t 1)]
def d124 : FD := ⟨124, 1, [2]⟩
def a124 : CodeF := (kSeq (kReg (sS 1 (xK nils) sEnd))
 (kSeq (kReg (sV (oLenL (xT 0)) (sV (oLenL (xT 0)) (sV (oSlc 1 (xT 0) none (some (xL 1)) (some (xL 0))) (sS 1 (xL 0) sEnd)))))
 kRet))
theorem t124 : FF d124 Tryz.f124 a124 [(.t 1)] := ff Tryz.func124 (by kernel_rfl)
def x124 : XFn := .go a124 1 pd1 [(.t 1)]
def d125 : FD := ⟨125, 1, [2]⟩
def a125 : CodeF := (kSeq (kReg (sS 1 (xK nils) sEnd))
 (kSeq (kReg (sV (oLenL (xT 0)) (sV (oLenL (xT 0)) (sV (oSlc 1 (xT 0) none (some (xL 1)) (some (xL 0))) (sS 1 (xL 0) sEnd)))))
 kRet))
theorem t125 : FF d125 Tryz.f125 a125 [(.t 1)] := ff Tryz.func125 (by kernel_rfl)
def x125 : XFn := .go a125 1 pd1 [(.t 1)]
def d126 : FD := ⟨126, 1, [2]⟩
def a126 : CodeF := (kSeq (kReg (sS 1 (xK nils) sEnd))
 (kSeq (kReg (sV (oLenL (xT 0)) (sV (oLenL (xT 0)) (sV (oSlc 2 (xT 0) none (some (xL 1)) (some (xL 0))) (sS 1 (xL 0) sEnd)))))
 kRet))
theorem t126 : FF d126 Tryz.f126 a126 [(.t 1)] := ff Tryz.func126 (by kernel_rfl)
def x126 : XFn := .go a126 1 pd1 [(.t 1)]
def d127 : FD := ⟨127, 1, [1, 2]⟩
def a127 : CodeF := (kSeq (kReg (sS 1 (xK nils) sEnd))
 (kSeq (kRegC (fun k => (sV (oLoad (xT 0)) (sV (oLenL (xL 0)) (sV (oBin .eql .no (xL 0) (ki 0)) k)))) (xL 0) (kReg (sV (oBuild [(int .i64 (.ofNat 0))] [(0, 1, (ki 20))]) (sV (oMkif 127 (xL 0)) (sPan (xL 0)))))
 kSkip)
 (kSeq (kReg (sV (oLoad (xT 0)) (sV (oIaddr 1 (xL 0) (ki 0)) (sV (oLoad (xL 0)) (sS 2 (xL 0) sEnd)))))
 (kSeq (kReg (sV (oLoad (xT 0)) (sV (oSlc 1 (xL 0) (some (ki 1)) none none) (sH (oStore 1 (xT 0) (xL 0)) sEnd))))
 (kSeq (kReg (sS 1 (xT 2) sEnd))
 kRet)))))
theorem t127 : FF d127 Tryz.f127 a127 [(.t 1)] := ff Tryz.func127 (by kernel_rfl)
def x127 : XFn := .go a127 1 pd2 [(.t 1)]
def d128 : FD := ⟨128, 1, [2, 3]⟩
def a128 : CodeF := (kSeq (kReg (sS 1 (xK (int .u8 (.ofNat 0))) (sS 2 (xK (bool false)) sEnd)))
 (kSeq (kRegC (fun k => (sV (oLenL (xT 0)) (sV (oBin .lss .no (xL 0) (ki 4)) (sG (xL 0) false (sV (oMov (xT 0))) (sG (xL 1) false (sV (oSlc 1 (xL 0) none (some (ki 3)) none)) (sG (xL 2) false (sV (oB2s (xL 0))) (sG (xL 3) false (sV (oBin .neq .no (xL 0) (xK (str [76, 84, 1])))) (sV (oPick (xL 4) (xK (bool true)) (xL 0)) k)))))))) (xL 0) (kSeq (kReg (sS 1 (xK (int .u8 (.ofNat 0))) (sS 2 (xK (bool false)) sEnd)))
 kRet)
 kSkip)
 (kSeq (kReg (sV (oIaddr 1 (xT 0) (ki 3)) (sV (oLoad (xL 0)) (sS 1 (xL 0) (sS 2 (xK (bool true)) sEnd)))))
 kRet)))
theorem t128 : FF d128 Tryz.f128 a128 [(.t 1), (.t 2)] := ff Tryz.func128 (by kernel_rfl)
def x128 : XFn := .go a128 1 pd2 [(.t 1), (.t 2)]
def d129 : FD := ⟨129, 2, [4]⟩
def a129 : CodeF := (kSeq (kReg (sS 2 (xK (bool false)) sEnd))
 (kSeq (kReg (sV (oB2s (xT 0)) (sV (oB2s (xT 1)) (sV (oBin .eql .no (xL 1) (xL 0)) (sS 2 (xL 0) sEnd)))))
 kRet))
theorem t129 : FF d129 Tryz.f129 a129 [(.t 2)] := ff Tryz.func129 (by kernel_rfl)
def x129 : XFn := .go a129 2 pd1 [(.t 2)]
def d130 : FD := ⟨130, 1, [2]⟩
def a130 : CodeF := (kSeq (kReg (sS 1 (xK nils) sEnd))
 (kSeq (kReg (sV (oConv .u8 (xT 0)) (sV (oBin .shr .no (xT 0) (xK (int .u64 (.ofNat 8)))) (sV (oConv .u8 (xL 0)) (sV (oBin .shr .no (xT 0) (xK (int .u64 (.ofNat 16)))) (sV (oConv .u8 (xL 0)) (sV (oBin .shr .no (xT 0) (xK (int .u64 (.ofNat 24)))) (sV (oConv .u8 (xL 0)) (sH (oBsl 5 1 4 [(int .u8 (.ofNat 0))] [(0, 1, (xL 6)), (1, 1, (xL 4)), (2, 1, (xL 2)), (3, 1, (xL 0))]) (sS 1 (xL 0) sEnd))))))))))
 kRet))
theorem t130 : FF d130 Tryz.f130 a130 [(.t 1)] := ff Tryz.func130 (by kernel_rfl)
def x130 : XFn := .go a130 1 pd1 [(.t 1)]
def d131 : FD := ⟨131, 1, [2, 11, 12, 13, 10, 6, 17, 18, 19, 16, 8, 4, 3]⟩
def a131 : CodeF := (kSeq (kReg (sS 1 (xK (int .u32 (.ofNat 0))) sEnd))
 (kSeq (kReg (sC (cFn 189) [] (sH (oAlloc 310 16 [(int .u32 (.ofNat 0)), (int .u32 (.ofNat 0)), (int .u32 (.ofNat 0)), (int .u32 (.ofNat 0)), (int .u32 (.ofNat 0)), (int .u32 (.ofNat 0)), (int .u32 (.ofNat 0)), (int .u32 (.ofNat 0)), (int .u32 (.ofNat 0)), (int .u32 (.ofNat 0)), (int .u32 (.ofNat 0)), (int .u32 (.ofNat 0)), (int .u32 (.ofNat 0)), (int .u32 (.ofNat 0)), (int .u32 (.ofNat 0)), (int .u32 (.ofNat 0))]) (sS 13 (xL 0) (sH (oStore 16 (xT 13) (xL 1)) sEnd)))))
 (kSeq (kReg (sS 12 (xK (int .u32 (.ofNat 4294967295))) sEnd))
 (kSeq (kSeq (kReg (sS 5 (xT 0) (sV (oLenL (xT 5)) (sS 2 (xL 0) (sS 3 (ki 0) sEnd)))))
 (kBlock 0 (kLoop (kSeq (kReg (sV (oBin .lss .no (xT 3) (xT 2)) (sS 4 (xL 0) sEnd)))
 (kSeq (kCond (xT 4) kSkip
 (kExit 0))
 (kSeq (kBlock 1 (kSeq (kReg (sV (oIaddr 1 (xT 5) (xT 3)) (sV (oLoad (xL 0)) (sS 6 (xL 0) sEnd))))
 (kSeq (kReg (sS 10 (xT 6) (sV (oLenL (xT 10)) (sS 7 (xL 0) (sS 8 (ki 0) sEnd)))))
 (kBlock 2 (kLoop (kSeq (kReg (sV (oBin .lss .no (xT 8) (xT 7)) (sS 9 (xL 0) sEnd)))
 (kSeq (kCond (xT 9) kSkip
 (kExit 2))
 (kSeq (kBlock 3 (kSeq (kReg (sV (oIaddr 1 (xT 10) (xT 8)) (sV (oLoad (xL 0)) (sS 11 (xL 0) sEnd))))
 (kSeq (kReg (sV (oMov (xT 12)) (sV (oConv .u32 (xT 11)) (sV (oBin .xor .no (xL 1) (xL 0)) (sS 12 (xL 0) sEnd)))))
 (kSeq (kReg (sV (oMov (xT 12)) (sV (oBin .shr .no (xL 0) (xK (int .u64 (.ofNat 4)))) (sV (oMov (xT 12)) (sV (oBin .and .no (xL 0) (xK (int .u32 (.ofNat 15)))) (sV (oIaddra 16 1 (xT 13) (xL 0)) (sV (oLoad (xL 0)) (sV (oBin .xor .no (xL 4) (xL 0)) (sS 12 (xL 0) sEnd)))))))))
 (kReg (sV (oMov (xT 12)) (sV (oBin .shr .no (xL 0) (xK (int .u64 (.ofNat 4)))) (sV (oMov (xT 12)) (sV (oBin .and .no (xL 0) (xK (int .u32 (.ofNat 15)))) (sV (oIaddra 16 1 (xT 13) (xL 0)) (sV (oLoad (xL 0)) (sV (oBin .xor .no (xL 4) (xL 0)) (sS 12 (xL 0) sEnd)))))))))))))
 (kReg (sV (oBin .add .no (xT 8) (ki 1)) (sS 8 (xL 0) sEnd)))))))))))
 (kReg (sV (oBin .add .no (xT 3) (ki 1)) (sS 3 (xL 0) sEnd)))))))))
 (kSeq (kReg (sV (oUn .xor (xT 12)) (sS 1 (xL 0) sEnd)))
 kRet)))))
theorem t131 : FF d131 Tryz.f131 a131 [(.t 1)] := ff Tryz.func131 (by kernel_rfl)
def x131 : XFn := .go a131 1 pd13 [(.t 1)]
def d132 : FD := ⟨132, 1, [2]⟩
def a132 : CodeF := (kSeq (kReg (sS 1 (ki 0) sEnd))
 (kSeq (kRegC (fun k => (sV (oBin .neq .ptr (xT 0) (xK nilptr)) (sG (xL 0) true (sV (oMov (xT 0))) (sG (xL 1) true (sV (oNilc (xL 0))) (sG (xL 2) true (sV (oFaddr 2 (xL 0))) (sG (xL 3) true (sV (oLoad (xL 0))) (sG (xL 4) true (sV (oBin .eql .no (xL 0) (ki 0))) (sV (oPick (xL 5) (xL 0) (xK (bool false))) (sG (xL 0) true (sV (oMov (xT 0))) (sG (xL 1) true (sC (cFn 76) [(xL 0)]) (sG (xL 2) true (sV (oBin .gtr .no (xL 0) (ki 0))) (sV (oPick (xL 3) (xL 0) (xK (bool false))) k)))))))))))) (xL 0) (kReg (sV (oNilc (xT 0)) (sV (oFaddr 2 (xL 0)) (sH (oStore 1 (xL 0) (ki 20)) sEnd))))
 kSkip)
 (kSeq (kReg (sC (cFn 78) [(xT 0)] (sS 1 (xL 0) sEnd)))
 kRet)))
theorem t132 : FF d132 Tryz.f132 a132 [(.t 1)] := ff Tryz.func132 (by kernel_rfl)
def x132 : XFn := .go a132 1 pd1 [(.t 1)]
def d133 : FD := ⟨133, 1, [2]⟩
def a133 : CodeF := (kSeq (kReg (sS 1 (xK nils) sEnd))
 (kSeq (kReg (sV (oLenL (xT 0)) (sV (oLenL (xT 0)) (sV (oSlc 1 (xT 0) none (some (xL 1)) (some (xL 0))) (sS 1 (xL 0) sEnd)))))
 kRet))
theorem t133 : FF d133 Tryz.f133 a133 [(.t 1)] := ff Tryz.func133 (by kernel_rfl)
def x133 : XFn := .go a133 1 pd1 [(.t 1)]
def d134 : FD := ⟨134, 2, [4, 5, 7, 6]⟩
def a134 : CodeF := (kSeq (kReg (sS 2 (ki 0) sEnd))
 (kSeq (kReg (sS 3 (ki 0) sEnd))
 (kSeq (kRegC (fun k => (sV (oBin .eql .ptr (xT 0) (xK nilptr)) (sG (xL 0) false (sV (oMov (xT 0))) (sG (xL 1) false (sV (oNilc (xL 0))) (sG (xL 2) false (sV (oFaddr 2 (xL 0))) (sG (xL 3) false (sV (oLoad (xL 0))) (sG (xL 4) false (sV (oBin .neq .no (xL 0) (ki 0))) (sV (oPick (xL 5) (xK (bool true)) (xL 0)) k)))))))) (xL 0) (kSeq (kReg (sS 2 (xT 3) sEnd))
 kRet)
 kSkip)
 (kSeq (kDraw [(.v (oMov (xT 1)), none), (.v (oMov (xT 0)), none), (.v (oNilc (xL 0)), none), (.v (oFaddr 0 (xL 0)), none), (.v (oLoad (xL 0)), none), (.v (oMov (xT 0)), none), (.v (oNilc (xL 0)), none), (.v (oFaddr 1 (xL 0)), none), (.v (oLoad (xL 0)), none), (.v (oSlc 1 (xL 4) (some (xL 0)) none none), none), (.c (cVal (xL 9)) [(xL 0)], none), (.v (oMov (xL 0)), none), (.v (oExt 0 (xL 0)), none), (.v (oExt 1 (xL 1)), none), (.v (oMov (xL 1)), none), (.v (oMov (xL 1)), none)] 0 [none, none, none, none, (some 0), (some 1)] [])
 (kSeq (kRegC (fun k => (sV (oBin .lss .no (xT 4) (ki 0)) k)) (xL 0) (kSeq (kReg (sV (oNilc (xT 0)) (sV (oFaddr 2 (xL 0)) (sH (oStore 1 (xL 0) (ki 20)) sEnd))))
 (kSeq (kReg (sS 2 (xT 3) sEnd))
 kRet))
 kSkip)
 (kSeq (kReg (sV (oNilc (xT 0)) (sV (oFaddr 1 (xL 0)) (sV (oLoad (xL 0)) (sV (oBin .add .no (xL 0) (xT 4)) (sV (oNilc (xT 0)) (sV (oFaddr 1 (xL 0)) (sH (oStore 1 (xL 0) (xL 2)) sEnd))))))))
 (kSeq (kReg (sS 2 (xT 5) sEnd))
 kRet)))))))
theorem t134 : FF d134 Tryz.f134 a134 [(.t 2)] := ff Tryz.func134 (by kernel_rfl)
def x134 : XFn := .go a134 2 pd4 [(.t 2)]
def d135 : FD := ⟨135, 3, [4, 5, 6, 7]⟩
def a135 : CodeF := (kSeq (kReg (sS 3 (ki 0) (sS 4 (ki 0) sEnd)))
 (kSeq (kReg (sV (oLoad (xT 1)) (sC (cFn 136) [(xL 0), (xT 0)] (sV (oExt 0 (xL 0)) (sV (oExt 1 (xL 1)) (sS 5 (xL 1) (sS 6 (xL 0) sEnd)))))))
 (kSeq (kRegC (fun k => (sV (oBin .lss .no (xT 6) (ki 0)) (sG (xL 0) false (sV (oLoad (xT 2))) (sG (xL 1) false (sV (oBin .lss .no (xL 0) (ki 0))) (sV (oPick (xL 2) (xK (bool true)) (xL 0)) (sG (xL 0) false (sV (oMov (xT 5))) (sG (xL 1) false (sV (oLoad (xT 2))) (sG (xL 2) false (sV (oConv .u64 (xL 0))) (sG (xL 3) false (sV (oBin .gtr .no (xL 2) (xL 0))) (sV (oPick (xL 4) (xK (bool true)) (xL 0)) k)))))))))) (xL 0) (kSeq (kReg (sS 3 (ki 0) (sS 4 (xK (int .i64 (.negSucc 0))) sEnd)))
 kRet)
 kSkip)
 (kSeq (kReg (sV (oConv .i64 (xT 5)) (sS 3 (xL 0) (sS 4 (xT 6) sEnd))))
 kRet))))
theorem t135 : FF d135 Tryz.f135 a135 [(.t 3), (.t 4)] := ff Tryz.func135 (by kernel_rfl)
def x135 : XFn := .go a135 3 pd4 [(.t 3), (.t 4)]
def d136 : FD := ⟨136, 2, [4, 5, 15, 16, 17, 14, 8, 9, 7, 6]⟩
def a136 : CodeF := (kSeq (kReg (sS 2 (xK (int .u64 (.ofNat 0))) (sS 3 (ki 0) sEnd)))
 (kSeq (kReg (sS 11 (xK (int .u64 (.ofNat 0))) sEnd))
 (kSeq (kSeq (kReg (sV (oLenL (xT 1)) (sV (oMm false (xL 0) [(ki 10)]) (sV (oSlc 1 (xT 1) none (some (xL 0)) none) (sS 7 (xL 0) (sV (oLenL (xT 7)) (sS 4 (xL 0) (sS 5 (ki 0) sEnd))))))))
 (kBlock 0 (kLoop (kSeq (kReg (sV (oBin .lss .no (xT 5) (xT 4)) (sS 6 (xL 0) sEnd)))
 (kSeq (kCond (xT 6) kSkip
 (kExit 0))
 (kSeq (kBlock 1 (kSeq (kReg (sV (oIaddr 1 (xT 7) (xT 5)) (sV (oLoad (xL 0)) (sS 10 (xT 5) (sS 8 (xL 0) sEnd)))))
 (kSeq (kReg (sV (oBin .and .no (xT 8) (xK (int .u8 (.ofNat 127)))) (sV (oConv .u64 (xL 0)) (sS 9 (xL 0) sEnd))))
 (kSeq (kRegC (fun k => (sV (oBin .eql .no (xT 10) (ki 9)) (sG (xL 0) true (sV (oMov (xT 9))) (sG (xL 1) true (sV (oBin .gtr .no (xL 0) (xK (int .u64 (.ofNat 1))))) (sV (oPick (xL 2) (xL 0) (xK (bool false))) k))))) (xL 0) (kSeq (kReg (sS 2 (xK (int .u64 (.ofNat 0))) (sS 3 (xK (int .i64 (.negSucc 0))) sEnd)))
 kRet)
 kSkip)
 (kSeq (kReg (sV (oMov (xT 11)) (sV (oBin .mul .no (ki 7) (xT 10)) (sV (oBin .shl .no (xT 9) (xL 0)) (sV (oBin .or .no (xL 2) (xL 0)) (sS 11 (xL 0) sEnd))))))
 (kRegC (fun k => (sV (oBin .lss .no (xT 8) (xK (int .u8 (.ofNat 128)))) k)) (xL 0) (kSeq (kRegC (fun k => (sV (oBin .eql .no (xT 8) (xK (int .u8 (.ofNat 0)))) (sG (xL 0) true (sV (oMov (xT 10))) (sG (xL 1) true (sV (oBin .gtr .no (xL 0) (ki 0))) (sV (oPick (xL 2) (xL 0) (xK (bool false))) k))))) (xL 0) (kSeq (kReg (sS 2 (xK (int .u64 (.ofNat 0))) (sS 3 (xK (int .i64 (.negSucc 0))) sEnd)))
 kRet)
 kSkip)
 (kSeq (kReg (sV (oBin .add .no (xT 10) (ki 1)) (sS 2 (xT 11) (sS 3 (xL 0) sEnd))))
 kRet))
 kSkip))))))
 (kReg (sV (oBin .add .no (xT 5) (ki 1)) (sS 5 (xL 0) sEnd)))))))))
 (kSeq (kReg (sS 2 (xK (int .u64 (.ofNat 0))) (sS 3 (xK (int .i64 (.negSucc 0))) sEnd)))
 kRet))))
theorem t136 : FF d136 Tryz.f136 a136 [(.t 2), (.t 3)] := ff Tryz.func136 (by kernel_rfl)
def x136 : XFn := .go a136 2 pd10 [(.t 2), (.t 3)]
def d137 : FD := ⟨137, 3, [6, 7, 8, 38, 39, 40, 11, 9, 12, 10]⟩
def a137 : CodeF := (kSeq (kReg (sS 3 (xK nils) (sS 4 (ki 0) sEnd)))
 (kSeq (kBlock 0 (kRegC (fun k => (sV (oBin .lss .no (xT 1) (ki 0)) (sG (xL 0) false (sV (oMov (xT 1))) (sG (xL 1) false (sV (oBin .gtr .no (xL 0) (ki 64))) (sV (oPick (xL 2) (xK (bool true)) (xL 0)) (sG (xL 0) false (sV (oMov (xT 2))) (sG (xL 1) false (sV (oBin .lss .no (xL 0) (ki 0))) (sV (oPick (xL 2) (xK (bool true)) (xL 0)) (sG (xL 0) false (sV (oMov (xT 2))) (sG (xL 1) false (sV (oBin .gtr .no (xL 0) (ki 1048576))) (sV (oPick (xL 2) (xK (bool true)) (xL 0)) k))))))))))) (xL 0) (kSeq (kReg (sS 3 (xK nils) (sS 4 (ki 1) sEnd)))
 kRet)
 (kRegC (fun k => (sV (oLenL (xT 0)) (sC (cFn 138) [(xT 1), (xT 2)] (sV (oBin .neq .no (xL 1) (xL 0)) k)))) (xL 0) (kSeq (kReg (sS 3 (xK nils) (sS 4 (ki 20) sEnd)))
 kRet)
 kSkip)))
 (kSeq (kReg (sH (oMksl 41 1 [(int .u64 (.ofNat 0))] (xT 2) (xT 2)) (sS 5 (xL 0) sEnd)))
 (kSeq (kReg (sS 10 (ki 0) sEnd))
 (kSeq kSkip
 (kSeq (kSeq (kReg (sV (oLenL (xT 5)) (sS 6 (xL 0) (sS 7 (ki 0) sEnd))))
 (kBlock 1 (kLoop (kSeq (kReg (sV (oBin .lss .no (xT 7) (xT 6)) (sS 8 (xL 0) sEnd)))
 (kSeq (kCond (xT 8) kSkip
 (kExit 1))
 (kSeq (kBlock 2 (kSeq (kReg (sS 12 (xT 7) sEnd))
 (kSeq (kReg (sS 9 (ki 0) sEnd))
 (kBlock 3 (kLoop (kBlock 4 (kSeq (kRegC (fun k => (sV (oBin .eql .no (xT 9) (xT 1)) k)) (xL 0) (kExit 2)
 kSkip)
 (kSeq (kReg (sV (oBin .rem .no (xT 10) (ki 8)) (sV (oBin .sub .no (ki 8) (xL 0)) (sV (oBin .sub .no (xT 1) (xT 9)) (sV (oMm false (xL 1) [(xL 0)]) (sS 11 (xL 0) sEnd))))))
 (kSeq (kDraw [(.v (oMov (xT 5)), none), (.v (oMov (xT 12)), none), (.v (oIaddr 1 (xL 1) (xL 0)), none), (.v (oLoad (xL 0)), none), (.v (oMov (xT 0)), none), (.v (oMov (xT 10)), none), (.v (oBin .quo .no (xL 0) (ki 8)), none), (.v (oIaddr 1 (xL 2) (xL 0)), none), (.v (oLoad (xL 0)), none), (.v (oMov (xT 10)), none), (.v (oBin .rem .no (xL 0) (ki 8)), none), (.v (oBin .shr .no (xL 2) (xL 0)), none), (.v (oMov (xT 11)), none), (.v (oBin .shl .no (xK (int .u8 (.ofNat 1))) (xL 0)), none), (.v (oBin .sub .no (xL 0) (xK (int .u8 (.ofNat 1)))), none), (.v (oBin .and .no (xL 3) (xL 0)), none), (.v (oConv .u64 (xL 0)), none), (.v (oMov (xT 9)), none), (.v (oBin .shl .no (xL 1) (xL 0)), none), (.v (oBin .or .no (xL 15) (xL 0)), none), (.v (oIaddr 1 (xL 19) (xL 18)), none), (.h (oStore 1 (xL 0) (xL 1)), none)] 0 [none, none, none, none, none, none, none, none, none, none, none, none, none] [])
 (kSeq (kReg (sV (oMov (xT 9)) (sV (oBin .add .no (xL 0) (xT 11)) (sS 9 (xL 0) sEnd))))
 (kReg (sV (oMov (xT 10)) (sV (oBin .add .no (xL 0) (xT 11)) (sS 10 (xL 0) sEnd))))))))))))))
 (kReg (sV (oBin .add .no (xT 7) (ki 1)) (sS 7 (xL 0) sEnd)))))))))
 (kSeq (kRegC (fun k => (sV (oBin .rem .no (xT 10) (ki 8)) (sV (oBin .gtr .no (xL 0) (ki 0)) (sG (xL 0) true (sV (oMov (xT 0))) (sG (xL 1) true (sV (oMov (xT 10))) (sG (xL 2) true (sV (oBin .quo .no (xL 0) (ki 8))) (sG (xL 3) true (sV (oIaddr 1 (xL 2) (xL 0))) (sG (xL 4) true (sV (oLoad (xL 0))) (sG (xL 5) true (sV (oMov (xT 10))) (sG (xL 6) true (sV (oBin .rem .no (xL 0) (ki 8))) (sG (xL 7) true (sV (oBin .shr .no (xL 2) (xL 0))) (sG (xL 8) true (sV (oBin .neq .no (xL 0) (xK (int .u8 (.ofNat 0))))) (sV (oPick (xL 9) (xL 0) (xK (bool false))) k))))))))))))) (xL 0) (kSeq (kReg (sS 3 (xK nils) (sS 4 (ki 20) sEnd)))
 kRet)
 kSkip)
 (kSeq (kReg (sS 3 (xT 5) (sS 4 (ki 0) sEnd)))
 kRet))))))))
theorem t137 : FF d137 Tryz.f137 a137 [(.t 3), (.t 4)] := ff Tryz.func137 (by kernel_rfl)
def x137 : XFn := .go a137 3 pd10 [(.t 3), (.t 4)]
def d138 : FD := ⟨138, 2, [4]⟩
def a138 : CodeF := (kSeq (kReg (sS 2 (ki 0) sEnd))
 (kSeq (kReg (sV (oBin .mul .no (xT 0) (xT 1)) (sV (oBin .add .no (xL 0) (ki 7)) (sV (oBin .quo .no (xL 0) (ki 8)) (sS 2 (xL 0) sEnd)))))
 kRet))
theorem t138 : FF d138 Tryz.f138 a138 [(.t 2)] := ff Tryz.func138 (by kernel_rfl)
def x138 : XFn := .go a138 2 pd1 [(.t 2)]
def d139 : FD := ⟨139, 1, [2, 7, 8, 9, 6, 5, 3]⟩
def a139 : CodeF := (kSeq (kReg (sS 1 (ki 0) sEnd))
 (kSeq (kReg (sS 7 (xK (int .u64 (.ofNat 0))) sEnd))
 (kSeq (kSeq (kReg (sS 5 (xT 0) (sV (oLenL (xT 5)) (sS 2 (xL 0) (sS 3 (ki 0) sEnd)))))
 (kBlock 0 (kLoop (kSeq (kReg (sV (oBin .lss .no (xT 3) (xT 2)) (sS 4 (xL 0) sEnd)))
 (kSeq (kCond (xT 4) kSkip
 (kExit 0))
 (kSeq (kBlock 1 (kSeq (kReg (sV (oIaddr 1 (xT 5) (xT 3)) (sV (oLoad (xL 0)) (sS 6 (xL 0) sEnd))))
 (kReg (sV (oMov (xT 7)) (sV (oBin .or .no (xL 0) (xT 6)) (sS 7 (xL 0) sEnd))))))
 (kReg (sV (oBin .add .no (xT 3) (ki 1)) (sS 3 (xL 0) sEnd)))))))))
 (kSeq (kReg (sC (cFn 190) [(xT 7)] (sS 1 (xL 0) sEnd)))
 kRet))))
theorem t139 : FF d139 Tryz.f139 a139 [(.t 1)] := ff Tryz.func139 (by kernel_rfl)
def x139 : XFn := .go a139 1 pd7 [(.t 1)]
def d140 : FD := ⟨140, 1, [2, 4, 3]⟩
def a140 : CodeF := (kSeq (kReg (sS 1 (xK (int .u64 (.ofNat 0))) sEnd))
 (kSeq (kRegC (fun k => (sV (oLenL (xT 0)) (sV (oBin .lss .no (xL 0) (ki 1)) k))) (xL 0) (kReg (sV (oMkif 9 (xK (str [115, 108, 105, 99, 101, 115, 46, 77, 105, 110, 58, 32, 101, 109, 112, 116, 121, 32, 108, 105, 115, 116]))) (sPan (xL 0))))
 kSkip)
 (kSeq (kReg (sV (oIaddr 1 (xT 0) (ki 0)) (sV (oLoad (xL 0)) (sS 3 (xL 0) sEnd))))
 (kSeq (kSeq (kReg (sS 2 (ki 1) sEnd))
 (kBlock 0 (kLoop (kSeq (kRegC (fun k => (sV (oLenL (xT 0)) (sV (oBin .lss .no (xT 2) (xL 0)) k))) (xL 0) kSkip
 (kExit 0))
 (kSeq (kBlock 1 (kReg (sV (oMov (xT 3)) (sV (oIaddr 1 (xT 0) (xT 2)) (sV (oLoad (xL 0)) (sV (oMm false (xL 2) [(xL 0)]) (sS 3 (xL 0) sEnd)))))))
 (kReg (sV (oMov (xT 2)) (sV (oBin .add .no (xL 0) (ki 1)) (sS 2 (xL 0) sEnd)))))))))
 (kSeq (kReg (sS 1 (xT 3) sEnd))
 kRet)))))
theorem t140 : FF d140 Tryz.f140 a140 [(.t 1)] := ff Tryz.func140 (by kernel_rfl)
def x140 : XFn := .go a140 1 pd3 [(.t 1)]
def d141 : FD := ⟨141, 2, [4, 5, 7, 6]⟩
def a141 : CodeF := (kSeq (kReg (sS 2 (xK nils) sEnd))
 (kSeq (kReg (sS 3 (xK nils) sEnd))
 (kSeq (kRegC (fun k => (sV (oBin .eql .ptr (xT 0) (xK nilptr)) (sG (xL 0) false (sV (oMov (xT 0))) (sG (xL 1) false (sV (oNilc (xL 0))) (sG (xL 2) false (sV (oFaddr 2 (xL 0))) (sG (xL 3) false (sV (oLoad (xL 0))) (sG (xL 4) false (sV (oBin .neq .no (xL 0) (ki 0))) (sV (oPick (xL 5) (xK (bool true)) (xL 0)) k)))))))) (xL 0) (kSeq (kReg (sS 2 (xT 3) sEnd))
 kRet)
 kSkip)
 (kSeq (kDraw [(.v (oMov (xT 1)), none), (.v (oMov (xT 0)), none), (.v (oNilc (xL 0)), none), (.v (oFaddr 0 (xL 0)), none), (.v (oLoad (xL 0)), none), (.v (oMov (xT 0)), none), (.v (oNilc (xL 0)), none), (.v (oFaddr 1 (xL 0)), none), (.v (oLoad (xL 0)), none), (.v (oSlc 1 (xL 4) (some (xL 0)) none none), none), (.c (cVal (xL 9)) [(xL 0)], none), (.v (oMov (xL 0)), none), (.v (oExt 0 (xL 0)), none), (.v (oExt 1 (xL 1)), none), (.v (oMov (xL 1)), none), (.v (oMov (xL 1)), none)] 0 [none, none, none, none, (some 0), (some 1)] [])
 (kSeq (kRegC (fun k => (sV (oBin .lss .no (xT 4) (ki 0)) k)) (xL 0) (kSeq (kReg (sV (oNilc (xT 0)) (sV (oFaddr 2 (xL 0)) (sH (oStore 1 (xL 0) (ki 20)) sEnd))))
 (kSeq (kReg (sS 2 (xT 3) sEnd))
 kRet))
 kSkip)
 (kSeq (kReg (sV (oNilc (xT 0)) (sV (oFaddr 1 (xL 0)) (sV (oLoad (xL 0)) (sV (oBin .add .no (xL 0) (xT 4)) (sV (oNilc (xT 0)) (sV (oFaddr 1 (xL 0)) (sH (oStore 1 (xL 0) (xL 2)) sEnd))))))))
 (kSeq (kReg (sS 2 (xT 5) sEnd))
 kRet)))))))
theorem t141 : FF d141 Tryz.f141 a141 [(.t 2)] := ff Tryz.func141 (by kernel_rfl)
def x141 : XFn := .go a141 2 pd4 [(.t 2)]
def d142 : FD := ⟨142, 2, [3, 4]⟩
def a142 : CodeF := (kSeq (kReg (sS 2 (xK nils) (sS 3 (ki 0) sEnd)))
 (kSeq (kRegC (fun k => (sV (oLoad (xT 1)) (sV (oBin .lss .no (xL 0) (ki 0)) (sG (xL 0) false (sV (oLoad (xT 1))) (sG (xL 1) false (sV (oMov (xT 0))) (sG (xL 2) false (sV (oLenL (xL 0))) (sG (xL 3) false (sV (oBin .gtr .no (xL 2) (xL 0))) (sV (oPick (xL 4) (xK (bool true)) (xL 0)) k)))))))) (xL 0) (kSeq (kReg (sS 2 (xK nils) (sS 3 (xK (int .i64 (.negSucc 0))) sEnd)))
 kRet)
 kSkip)
 (kSeq (kDraw [(.v (oMov (xT 0)), none), (.v (oLoad (xT 1)), none), (.v (oSlc 1 (xL 1) none (some (xL 0)) none), none), (.c (cFn 28) [(xL 0)], none), (.c (cFn 27) [(xL 0)], none), (.v (oLoad (xT 1)), none), (.v (oMov (xL 1)), none), (.v (oMov (xL 1)), none)] 0 [none, none, (some 1), (some 0)] [(2, 4), (2, 3)])
 kRet)))
theorem t142 : FF d142 Tryz.f142 a142 [(.t 2), (.t 3)] := ff Tryz.func142 (by kernel_rfl)
def x142 : XFn := .go a142 2 pd2 [(.t 2), (.t 3)]
def d143 : FD := ⟨143, 2, [2, 4]⟩
def a143 : CodeF := (kSeq (kReg (sRec (sS 2 (xL 0) sEnd)))
 (kSeq (kReg (sV (oTass 254 (agg []) (xT 2)) (sV (oExt 0 (xL 0)) (sV (oExt 1 (xL 1)) (sH (oAlloc 254 0 []) (sH (oStore 0 (xL 0) (xL 2)) (sS 3 (xL 2) sEnd)))))))
 (kRegC (fun k => k) (xT 3) (kReg (sH (oStore 1 (xT 0) (xK nilptr)) (sH (oStore 1 (xT 1) (ki 20)) sEnd)))
 (kRegC (fun k => (sV (oBin .neq (.iface true) (xT 2) (xK nilif)) k)) (xL 0) (kReg (sPan (xT 2)))
 kSkip))))
theorem t143 : FF d143 Tryz.f143 a143 [] := ff Tryz.func143 (by kernel_rfl)
def x143 : XFn := .go a143 2 pd2 []
def d144 : FD := ⟨144, 2, [4, 12, 13, 14, 5, 24]⟩
def a144 : CodeF := (kSeq (kReg (sS 2 (xK (bool false)) sEnd))
 (kSeq (kRegC (fun k => (sV (oLenL (xT 0)) (sV (oLenL (xT 1)) (sV (oBin .neq .no (xL 1) (xL 0)) k)))) (xL 0) (kSeq (kReg (sS 2 (xK (bool false)) sEnd))
 kRet)
 kSkip)
 (kSeq (kSeq (kReg (sV (oLenL (xT 0)) (sS 3 (xL 0) (sS 4 (ki 0) sEnd))))
 (kBlock 0 (kLoop (kSeq (kReg (sV (oBin .lss .no (xT 4) (xT 3)) (sS 5 (xL 0) sEnd)))
 (kSeq (kCond (xT 5) kSkip
 (kExit 0))
 (kSeq (kBlock 1 (kSeq (kReg (sS 6 (xT 4) sEnd))
 (kSeq (kDraw [(.v (oMov (xT 0)), none), (.v (oMov (xT 6)), none), (.v (oIaddr 1 (xL 1) (xL 0)), none), (.v (oLoad (xL 0)), none), (.v (oMov (xT 1)), none), (.v (oMov (xT 6)), none), (.v (oIaddr 1 (xL 1) (xL 0)), none), (.v (oLoad (xL 0)), none), (.v (oBin .neq .no (xL 4) (xL 0)), none)] 0 [none, none, none, none, none, none, none, (some 0)] [])
 (kCond (xT 7) (kSeq (kReg (sS 2 (xK (bool false)) sEnd))
 kRet)
 kSkip))))
 (kReg (sV (oBin .add .no (xT 4) (ki 1)) (sS 4 (xL 0) sEnd)))))))))
 (kSeq (kReg (sS 2 (xK (bool true)) sEnd))
 kRet))))
theorem t144 : FF d144 Tryz.f144 a144 [(.t 2)] := ff Tryz.func144 (by kernel_rfl)
def x144 : XFn := .go a144 2 pd6 [(.t 2)]
def d145 : FD := ⟨145, 2, [4]⟩
def a145 : CodeF := (kSeq (kReg (sS 2 (xK nilptr) sEnd))
 (kSeq (kRegC (fun k => (sV (oBin .neq .no (xT 1) (ki 0)) k)) (xL 0) (kReg (sV (oBuild [(int .i64 (.ofNat 0))] [(0, 1, (xT 1))]) (sV (oMkif 127 (xL 0)) (sPan (xL 0)))))
 kSkip)
 (kSeq (kReg (sS 2 (xT 0) sEnd))
 kRet)))
theorem t145 : FF d145 Tryz.f145 a145 [(.t 2)] := ff Tryz.func145 (by kernel_rfl)
def x145 : XFn := .go a145 2 pd1 [(.t 2)]
def d146 : FD := ⟨146, 1, [2, 3, 4, 5, 7, 6, 9, 11, 8]⟩
def a146 : CodeF := (kSeq (kReg (sS 1 (xK nilptr) (sS 2 (ki 0) sEnd)))
 (kSeq (kReg (sC (cFn 72) [(xT 0)] (sS 3 (xL 0) sEnd)))
 (kSeq (kReg (sC (cFn 73) [(xT 3), (ki 1048576)] (sV (oBuild [nils, nils, (int .i64 (.ofNat 0))] [(2, 1, (xL 0))]) (sH (oBox 315 3 (xL 0)) (sS 4 (xL 0) sEnd)))))
 (kSeq (kReg (sS 6 (xK (str [])) sEnd))
 (kSeq (kSeq (kReg (sS 5 (ki 0) sEnd))
 (kBlock 0 (kLoop (kSeq (kRegC (fun k => (sV (oNilc (xT 4)) (sV (oFaddr 2 (xL 0)) (sV (oLoad (xL 0)) (sV (oBin .lss .no (xT 5) (xL 0)) k))))) (xL 0) kSkip
 (kExit 0))
 (kSeq (kBlock 1 (kSeq (kReg (sV (oLenL (xT 0)) (sC (cFn 76) [(xT 3)] (sV (oBin .sub .no (xL 1) (xL 0)) (sS 9 (xL 0) sEnd)))))
 (kSeq (kReg (sV (oBin .quo .no (xT 5) (ki 16)) (sC (cFn 192) [(xT 4), (xL 0)] (sC (cFn 191) [(xT 3), (xL 0)] (sV (oExt 0 (xL 0)) (sV (oExt 1 (xL 1)) (sV (oExt 2 (xL 2)) (sS 7 (xL 2) (sS 8 (xL 0) sEnd)))))))))
 (kSeq (kRegC (fun k => (sV (oUn .not (xT 8)) (sG (xL 0) false (sV (oMov (xT 5))) (sG (xL 1) false (sV (oBin .gtr .no (xL 0) (ki 0))) (sG (xL 2) false (sV (oMov (xL 0))) (sG (xL 0) true (sV (oMov (xT 7))) (sG (xL 1) true (sV (oIaddr 1 (xL 0) (ki 0))) (sG (xL 2) true (sV (oLoad (xL 0))) (sG (xL 3) true (sV (oMov (xT 6))) (sG (xL 4) true (sV (oBin .leq .no (xL 1) (xL 0))) (sG (xL 8) false (sV (oPick (xL 5) (xL 0) (xK (bool false)))) (sV (oPick (xL 9) (xK (bool true)) (xL 0)) k)))))))))))) (xL 0) (kSeq (kReg (sS 1 (xK nilptr) (sS 2 (ki 20) sEnd)))
 kRet)
 kSkip)
 (kSeq (kReg (sV (oLenL (xT 7)) (sV (oBin .sub .no (xL 0) (ki 1)) (sV (oIaddr 1 (xT 7) (xL 0)) (sV (oLoad (xL 0)) (sS 6 (xL 0) sEnd))))))
 (kSeq (kDraw [(.v (oMov (xT 4)), none), (.v (oMov (xT 4)), none), (.v (oNilc (xL 0)), none), (.v (oFaddr 1 (xL 0)), none), (.v (oLoad (xL 0)), none), (.v (oMov (xT 7)), none), (.v (oIaddr 1 (xL 0) (ki 0)), none), (.v (oLoad (xL 0)), none), (.h (oBsl 9 1 1 [(str [])] [(0, 1, (xL 0))]), none), (.h (oApp 9 1 (xL 4) (xL 0)), none), (.v (oNilc (xL 9)), none), (.v (oFaddr 1 (xL 0)), none), (.h (oStore 1 (xL 0) (xL 2)), none)] 0 [none, none, none, none, none, none, none, none, none, none] [(8, 4)])
 (kDraw [(.v (oMov (xT 4)), none), (.v (oMov (xT 4)), none), (.v (oNilc (xL 0)), none), (.v (oFaddr 0 (xL 0)), none), (.v (oLoad (xL 0)), none), (.v (oMov (xT 0)), none), (.v (oMov (xT 9)), none), (.v (oMov (xT 0)), none), (.v (oLenL (xL 0)), none), (.v (oMov (xT 3)), none), (.c (cFn 76) [(xL 0)], none), (.v (oBin .sub .no (xL 2) (xL 0)), none), (.v (oSlc 1 (xL 6) (some (xL 5)) (some (xL 0)) none), none), (.c (cFn 28) [(xL 0)], none), (.h (oBsl 48 1 1 [nils] [(0, 1, (xL 0))]), none), (.h (oApp 48 1 (xL 10) (xL 0)), none), (.v (oNilc (xL 15)), none), (.v (oFaddr 0 (xL 0)), none), (.h (oStore 1 (xL 0) (xL 2)), none)] 0 [none, none, none, none, none, none, none, none, none, none] [(14, 8), (14, 5), (14, 4)])))))))
 (kReg (sV (oMov (xT 5)) (sV (oBin .add .no (xL 0) (ki 16)) (sS 5 (xL 0) sEnd)))))))))
 (kSeq (kRegC (fun k => (sC (cFn 132) [(xT 3)] (sV (oBin .neq .no (xL 0) (ki 0)) k))) (xL 0) (kSeq (kReg (sS 1 (xK nilptr) (sS 2 (ki 20) sEnd)))
 kRet)
 kSkip)
 (kSeq (kReg (sS 1 (xT 4) (sS 2 (ki 0) sEnd)))
 kRet)))))))
theorem t146 : FF d146 Tryz.f146 a146 [(.t 1), (.t 2)] := ff Tryz.func146 (by kernel_rfl)
def x146 : XFn := .go a146 1 pd9 [(.t 1), (.t 2)]
def d147 : FD := ⟨147, 1, [2]⟩
def a147 : CodeF := (kSeq (kReg (sS 1 (ki 0) sEnd))
 (kSeq (kRegC (fun k => (sV (oBin .eql .ptr (xT 0) (xK nilptr)) k)) (xL 0) (kSeq (kReg (sS 1 (ki 0) sEnd))
 kRet)
 kSkip)
 (kSeq (kReg (sV (oNilc (xT 0)) (sV (oFaddr 2 (xL 0)) (sV (oLoad (xL 0)) (sS 1 (xL 0) sEnd)))))
 kRet)))
theorem t147 : FF d147 Tryz.f147 a147 [(.t 1)] := ff Tryz.func147 (by kernel_rfl)
def x147 : XFn := .go a147 1 pd1 [(.t 1)]
def d148 : FD := ⟨148, 2, [4, 6]⟩
def a148 : CodeF := (kSeq (kReg (sS 2 (xK (int .u64 (.ofNat 0))) sEnd))
 (kSeq (kRegC (fun k => (sV (oBin .lss .no (xT 1) (ki 0)) (sG (xL 0) false (sV (oMov (xT 1))) (sG (xL 1) false (sV (oMov (xT 0))) (sG (xL 2) false (sC (cFn 147) [(xL 0)]) (sG (xL 3) false (sV (oBin .geq .no (xL 2) (xL 0))) (sV (oPick (xL 4) (xK (bool true)) (xL 0)) k))))))) (xL 0) (kSeq (kReg (sS 2 (xK (int .u64 (.ofNat 0))) sEnd))
 kRet)
 kSkip)
 (kSeq (kReg (sV (oBin .quo .no (xT 1) (ki 16)) (sC (cFn 193) [(xT 0), (xL 0)] (sV (oExt 0 (xL 0)) (sV (oExt 1 (xL 1)) (sS 3 (xL 0) sEnd))))))
 (kSeq (kReg (sV (oBin .rem .no (xT 1) (ki 16)) (sV (oIaddr 1 (xT 3) (xL 0)) (sV (oLoad (xL 0)) (sS 2 (xL 0) sEnd)))))
 kRet))))
theorem t148 : FF d148 Tryz.f148 a148 [(.t 2)] := ff Tryz.func148 (by kernel_rfl)
def x148 : XFn := .go a148 2 pd2 [(.t 2)]
def d149 : FD := ⟨149, 2, [4]⟩
def a149 : CodeF := (kSeq (kReg (sS 2 (xK nilptr) sEnd))
 (kSeq (kRegC (fun k => (sV (oBin .neq .no (xT 1) (ki 0)) k)) (xL 0) (kReg (sV (oBuild [(int .i64 (.ofNat 0))] [(0, 1, (xT 1))]) (sV (oMkif 127 (xL 0)) (sPan (xL 0)))))
 kSkip)
 (kSeq (kReg (sS 2 (xT 0) sEnd))
 kRet)))
theorem t149 : FF d149 Tryz.f149 a149 [(.t 2)] := ff Tryz.func149 (by kernel_rfl)
def x149 : XFn := .go a149 2 pd1 [(.t 2)]
def d150 : FD := ⟨150, 1, [2, 3, 4, 5, 8, 7, 10, 9, 11, 13, 12, 6, 14, 15]⟩
def a150 : CodeF := (kSeq (kReg (sS 1 (xK nilptr) (sS 2 (ki 0) sEnd)))
 (kSeq (kReg (sC (cFn 72) [(xT 0)] (sS 3 (xL 0) sEnd)))
 (kSeq (kReg (sC (cFn 73) [(xT 3), (ki 16384)] (sV (oBuild [nils, (int .i64 (.ofNat 0))] [(1, 1, (xL 0))]) (sH (oBox 322 2 (xL 0)) (sS 4 (xL 0) sEnd)))))
 (kSeq (kReg (sS 12 (xK nils) sEnd))
 (kSeq (kReg (sS 6 (xK (int .i64 (.negSucc 0))) sEnd))
 (kSeq (kSeq (kReg (sS 5 (ki 0) sEnd))
 (kBlock 0 (kLoop (kSeq (kRegC (fun k => (sV (oNilc (xT 4)) (sV (oFaddr 1 (xL 0)) (sV (oLoad (xL 0)) (sV (oBin .lss .no (xT 5) (xL 0)) k))))) (xL 0) kSkip
 (kExit 0))
 (kSeq (kBlock 1 (kSeq (kReg (sV (oLenL (xT 0)) (sC (cFn 73) [(xT 3), (xL 0)] (sS 8 (xL 0) sEnd))))
 (kSeq (kReg (sC (cFn 73) [(xT 3), (ki 16384)] (sV (oBin .add .no (xT 6) (xL 0)) (sS 7 (xL 0) sEnd))))
 (kSeq (kDraw [(.v (oMov (xT 3)), none), (.v (oMov (xT 8)), none), (.c (cFn 75) [(xL 1), (xL 0)], none), (.v (oMov (xT 6)), none), (.v (oMov (xT 7)), none), (.v (oMov (xT 4)), none), (.v (oNilc (xL 0)), none), (.v (oFaddr 1 (xL 0)), none), (.v (oLoad (xL 0)), none), (.v (oMov (xT 5)), none), (.v (oBin .sub .no (xL 1) (xL 0)), none), (.v (oMm false (ki 8) [(xL 0)]), none), (.v (oBuild [nils, (int .i64 (.ofNat 0)), (int .i64 (.ofNat 0)), (int .i64 (.ofNat 0))] [(0, 1, (xL 9)), (1, 1, (xL 8)), (2, 1, (xL 7)), (3, 1, (xL 0))]), none), (.f (oAlloc 324 4 [nils, (int .i64 (.ofNat 0)), (int .i64 (.ofNat 0)), (int .i64 (.ofNat 0))]), none), (.h (oStore 4 (xL 0) (xL 1)), none)] 1 [none, none, none, none, none, none, none, none, none, (some 1), none, none, none, none, none] [(6, 12)])
 (kSeq (kReg (sV (oLoadN 4 (xT 9)) (sC (cFn 194) [(xL 0)] (sV (oExt 0 (xL 0)) (sV (oExt 1 (xL 1)) (sS 11 (xL 1) (sS 10 (xL 0) sEnd)))))))
 (kSeq (kRegC (fun k => (sC (cFn 78) [(xT 3)] (sV (oBin .neq .no (xL 0) (ki 0)) (sG (xL 0) false (sV (oMov (xT 10))) (sG (xL 1) false (sV (oUn .not (xL 0))) (sV (oPick (xL 2) (xK (bool true)) (xL 0)) k)))))) (xL 0) (kSeq (kReg (sS 1 (xK nilptr) (sS 2 (ki 20) sEnd)))
 kRet)
 kSkip)
 (kSeq (kDraw [(.v (oMov (xT 4)), none), (.v (oMov (xT 4)), none), (.v (oNilc (xL 0)), none), (.v (oFaddr 0 (xL 0)), none), (.v (oLoad (xL 0)), none), (.v (oLoadN 4 (xT 9)), none), (.h (oBsl 324 4 1 [nils, (int .i64 (.ofNat 0)), (int .i64 (.ofNat 0)), (int .i64 (.ofNat 0))] [(0, 4, (xL 0))]), none), (.h (oApp 324 4 (xL 2) (xL 0)), none), (.v (oNilc (xL 7)), none), (.v (oFaddr 0 (xL 0)), none), (.h (oStore 1 (xL 0) (xL 2)), none)] 0 [none, none, none, none, none, none, none, none, none, none, none, none, none, none, none] [(6, 4)])
 (kSeq (kReg (sV (oMov (xT 12)) (sH (oApp 224 2 (xL 0) (xT 11)) (sS 12 (xL 0) sEnd))))
 (kReg (sS 6 (xT 7) sEnd))))))))))
 (kReg (sV (oMov (xT 5)) (sV (oBin .add .no (xL 0) (ki 8)) (sS 5 (xL 0) sEnd)))))))))
 (kSeq (kSeq (kReg (sC (cFn 195) [(xT 12)] (sV (oExt 0 (xL 0)) (sV (oExt 1 (xL 1)) (sS 13 (xL 1) (sS 14 (xL 0) sEnd))))))
 (kRegC (fun k => (sC (cFn 132) [(xT 3)] (sV (oBin .neq .no (xL 0) (ki 0)) (sG (xL 0) false (sV (oMov (xT 14))) (sG (xL 1) false (sV (oBin .neq .no (xL 0) (ki 0))) (sV (oPick (xL 2) (xK (bool true)) (xL 0)) (sG (xL 0) false (sV (oMov (xT 13))) (sG (xL 1) false (sV (oMov (xT 0))) (sG (xL 2) false (sC (cFn 144) [(xL 1), (xL 0)]) (sG (xL 3) false (sV (oUn .not (xL 0))) (sV (oPick (xL 4) (xK (bool true)) (xL 0)) k))))))))))) (xL 0) (kSeq (kReg (sS 1 (xK nilptr) (sS 2 (ki 20) sEnd)))
 kRet)
 kSkip))
 (kSeq (kReg (sS 1 (xT 4) (sS 2 (ki 0) sEnd)))
 kRet))))))))
theorem t150 : FF d150 Tryz.f150 a150 [(.t 1), (.t 2)] := ff Tryz.func150 (by kernel_rfl)
def x150 : XFn := .go a150 1 pd14 [(.t 1), (.t 2)]
def d151 : FD := ⟨151, 2, [4]⟩
def a151 : CodeF := (kSeq (kReg (sS 2 (xK nilptr) sEnd))
 (kSeq (kRegC (fun k => (sV (oBin .neq .no (xT 1) (ki 0)) k)) (xL 0) (kReg (sV (oBuild [(int .i64 (.ofNat 0))] [(0, 1, (xT 1))]) (sV (oMkif 127 (xL 0)) (sPan (xL 0)))))
 kSkip)
 (kSeq (kReg (sS 2 (xT 0) sEnd))
 kRet)))
theorem t151 : FF d151 Tryz.f151 a151 [(.t 2)] := ff Tryz.func151 (by kernel_rfl)
def x151 : XFn := .go a151 2 pd1 [(.t 2)]
def d152 : FD := ⟨152, 1, [2, 3, 5, 6, 4, 7, 64, 65, 66, 9, 8]⟩
def a152 : CodeF := (kSeq (kReg (sS 1 (xK nilptr) (sS 2 (ki 0) sEnd)))
 (kSeq (kReg (sV (oBuild [nils, nils, nils] []) (sH (oBox 331 3 (xL 0)) (sH (oAlloc 177 1 [nilptr]) (sS 5 (xL 0) (sH (oStore 1 (xT 5) (xL 1)) sEnd))))))
 (kSeq (kReg (sC (cFn 72) [(xT 0)] (sS 3 (xL 0) sEnd)))
 (kSeq (kSeq (kReg (sV (oLenL (xT 0)) (sC (cFn 73) [(xT 3), (xL 0)] (sS 4 (xL 0) sEnd))))
 (kBlock 0 (kLoop (kSeq (kRegC (fun k => (sV (oBin .gtr .no (xT 4) (ki 0)) (sG (xL 0) true (sV (oMov (xT 3))) (sG (xL 1) true (sC (cFn 78) [(xL 0)]) (sG (xL 2) true (sV (oBin .eql .no (xL 0) (ki 0))) (sV (oPick (xL 3) (xL 0) (xK (bool false))) k)))))) (xL 0) kSkip
 (kExit 0))
 (kSeq (kBlock 1 (kDraw [(.v (oLoad (xT 5)), none), (.v (oLoad (xT 5)), none), (.v (oNilc (xL 0)), none), (.v (oFaddr 2 (xL 0)), none), (.v (oLoad (xL 0)), none), (.v (oMov (xT 3)), none), (.c (cFn 100) [(xL 0), (ki 256)], none), (.h (oBsl 9 1 1 [(str [])] [(0, 1, (xL 0))]), none), (.h (oApp 9 1 (xL 3) (xL 0)), none), (.v (oNilc (xL 8)), none), (.v (oFaddr 2 (xL 0)), none), (.h (oStore 1 (xL 0) (xL 2)), none)] 0 [none, none, none, none, none, none, none, none, none, none, none, none] [(11, 5), (11, 4), (11, 3), (10, 5), (10, 4), (7, 5), (7, 4)]))
 (kReg (sV (oMov (xT 4)) (sV (oBin .sub .no (xL 0) (ki 1)) (sS 4 (xL 0) sEnd)))))))))
 (kSeq (kRegC (fun k => (sC (cFn 78) [(xT 3)] (sV (oBin .neq .no (xL 0) (ki 0)) k))) (xL 0) (kSeq (kReg (sS 1 (xK nilptr) (sS 2 (ki 20) sEnd)))
 kRet)
 kSkip)
 (kSeq (kReg (sS 6 (xK (bool false)) sEnd))
 (kSeq (kDraw [(.v (oLoad (xT 5)), none), (.v (oMov (xT 3)), none), (.v (oMov (xT 3)), none), (.c (cFn 76) [(xL 0)], none), (.c (cFn 75) [(xL 2), (xL 0)], none), (.c (cFn 196) [(xL 0)], none), (.v (oMov (xL 0)), none), (.v (oExt 0 (xL 0)), none), (.v (oExt 1 (xL 1)), none), (.v (oNilc (xL 8)), none), (.v (oFaddr 0 (xL 0)), none), (.h (oStore 2 (xL 0) (xL 3)), none), (.v (oMov (xL 3)), none)] 0 [none, none, none, none, none, none, (some 0), none, none, none, none, none] [(12, 9), (12, 8), (12, 7)])
 (kSeq (kRegC (fun k => (sV (oUn .not (xT 6)) (sG (xL 0) false (sV (oLoad (xT 5))) (sG (xL 1) false (sV (oNilc (xL 0))) (sG (xL 2) false (sV (oFaddr 0 (xL 0))) (sG (xL 3) false (sV (oFaddr 1 (xL 0))) (sG (xL 4) false (sV (oLoad (xL 0))) (sG (xL 5) false (sV (oMkfn 198 [] [(xT 5)])) (sG (xL 6) false (sC (cFn 197) [(xL 1), (xL 0)]) (sV (oPick (xL 7) (xK (bool true)) (xL 0)) k)))))))))) (xL 0) (kSeq (kReg (sS 1 (xK nilptr) (sS 2 (ki 20) sEnd)))
 kRet)
 kSkip)
 (kSeq (kReg (sS 11 (xK nils) sEnd))
 (kSeq (kSeq (kReg (sV (oLoad (xT 5)) (sC (cFn 199) [(xL 0)] (sS 7 (xL 0) (sS 8 (ki 0) sEnd)))))
 (kBlock 2 (kLoop (kSeq (kReg (sV (oBin .lss .no (xT 8) (xT 7)) (sS 9 (xL 0) sEnd)))
 (kSeq (kCond (xT 9) kSkip
 (kExit 2))
 (kSeq (kBlock 3 (kSeq (kReg (sS 10 (xT 8) sEnd))
 (kReg (sV (oMov (xT 11)) (sV (oLoad (xT 5)) (sC (cFn 200) [(xL 0), (xT 10)] (sH (oBsl 136 1 1 [nils] [(0, 1, (xL 0))]) (sH (oApp 136 1 (xL 3) (xL 0)) (sS 11 (xL 0) sEnd)))))))))
 (kReg (sV (oBin .add .no (xT 8) (ki 1)) (sS 8 (xL 0) sEnd)))))))))
 (kSeq (kRegC (fun k => (sC (cFn 165) [(xT 11)] (sC (cFn 144) [(xL 0), (xT 0)] (sV (oUn .not (xL 0)) k)))) (xL 0) (kSeq (kReg (sS 1 (xK nilptr) (sS 2 (ki 20) sEnd)))
 kRet)
 kSkip)
 (kSeq (kReg (sV (oLoad (xT 5)) (sS 1 (xL 0) (sS 2 (ki 0) sEnd))))
 kRet))))))))))))
theorem t152 : FF d152 Tryz.f152 a152 [(.t 1), (.t 2)] := ff Tryz.func152 (by kernel_rfl)
def x152 : XFn := .go a152 1 pd11 [(.t 1), (.t 2)]
def d157 : FD := ⟨157, 3, [6, 8, 7]⟩
def a157 : CodeF := (kSeq (kReg (sS 3 (xK nils) sEnd))
 (kSeq (kReg (sC (cFn 28) [(xT 0)] (sS 5 (xL 0) sEnd)))
 (kSeq (kReg (sC (cVal (xT 2)) [(xT 1)] (sS 4 (xL 0) sEnd)))
 (kSeq (kBlock 0 (kLoop (kSeq (kRegC (fun k => (sV (oBin .gtr .no (xT 4) (xK (int .u64 (.ofNat 127)))) k)) (xL 0) kSkip
 (kExit 0))
 (kSeq (kBlock 1 (kReg (sV (oMov (xT 5)) (sV (oConv .u8 (xT 4)) (sV (oBin .or .no (xL 0) (xK (int .u8 (.ofNat 128)))) (sH (oBsl 5 1 1 [(int .u8 (.ofNat 0))] [(0, 1, (xL 0))]) (sH (oApp 5 1 (xL 3) (xL 0)) (sS 5 (xL 0) sEnd))))))))
 (kReg (sV (oMov (xT 4)) (sV (oBin .shr .no (xL 0) (xK (int .u64 (.ofNat 7)))) (sS 4 (xL 0) sEnd))))))))
 (kSeq (kReg (sV (oConv .u8 (xT 4)) (sH (oBsl 5 1 1 [(int .u8 (.ofNat 0))] [(0, 1, (xL 0))]) (sH (oApp 5 1 (xT 5) (xL 0)) (sC (cFn 27) [(xL 0)] (sS 3 (xL 0) sEnd))))))
 kRet)))))
theorem t157 : FF d157 Tryz.f157 a157 [(.t 3)] := ff Tryz.func157 (by kernel_rfl)
def x157 : XFn := .go a157 3 pd3 [(.t 3)]
def d158 : FD := ⟨158, 1, [2]⟩
def a158 : CodeF := (kSeq (kReg (sS 1 (xK (int .u64 (.ofNat 0))) sEnd))
 (kSeq (kReg (sS 1 (xT 0) sEnd))
 kRet))
theorem t158 : FF d158 Tryz.f158 a158 [(.t 1)] := ff Tryz.func158 (by kernel_rfl)
def x158 : XFn := .go a158 1 pd1 [(.t 1)]
def d159 : FD := ⟨159, 2, [4, 3, 2]⟩
def a159 : CodeF := (kSeq (kReg (sH (oBox 69 1 (xT 0)) (sS 4 (xL 0) (sH (oBox 3 1 (xT 1)) (sS 3 (xL 0) (sS 2 (xK nilfunc) sEnd))))))
 (kSeq (kRegC (fun k => (sV (oLoad (xT 3)) (sV (oBin .lss .no (xL 0) (ki 1)) k))) (xL 0) (kReg (sV (oMkif 9 (xK (str [99, 97, 110, 110, 111, 116, 32, 98, 101, 32, 108, 101, 115, 115, 32, 116, 104, 97, 110, 32, 49]))) (sPan (xL 0))))
 kSkip)
 (kSeq (kReg (sV (oMkfn 205 [] [(xT 4), (xT 3)]) (sS 2 (xL 0) sEnd)))
 kRet)))
theorem t159 : FF d159 Tryz.f159 a159 [(.t 2)] := ff Tryz.func159 (by kernel_rfl)
def x159 : XFn := .go a159 2 pd3 [(.t 2)]
end
end Go.Proofs.YthaaihgllpehbaaGreatDoor
