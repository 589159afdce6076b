import Derived.Test.YthaaihgllpehbaaGreatDoorP
import Derived.Test.YthaaihgllpehbaaGreatDoorProg
import Derived.KernelRfl
/- The functions of the program as the interpreter has them; each is the program's, by the kernel. -/
set_option maxRecDepth 1000000
namespace Go.Proofs.YthaaihgllpehbaaGreatDoor
open Go Go.Ai AVal
noncomputable section
def d3 : FD := ⟨3, 2, [4, 5, 9, 7, 8, 6]⟩
def a3 : CodeF := (kSeq (kReg (sS 2 (xK (bool false)) sEnd))
 (kSeq (kReg (sC (cFn 4) [(xT 0)] (sS 3 (xL 0) sEnd)))
 (kSeq (kReg (sC (cFn 5) [(xT 3), (xT 1)] (sV (oExt 0 (xL 0)) (sV (oExt 1 (xL 1)) (sS 7 (xL 1) (sS 5 (xL 0) sEnd))))))
 (kSeq (kReg (sC (cFn 6) [(xT 0), (xT 1)] (sV (oExt 0 (xL 0)) (sV (oExt 1 (xL 1)) (sS 6 (xL 1) (sS 4 (xL 0) sEnd))))))
 (kSeq (kReg (sV (oBin .eql .no (xT 7) (xT 6)) (sG (xL 0) true (sV (oMov (xT 5))) (sG (xL 1) true (sV (oMov (xT 4))) (sG (xL 2) true (sV (oBin .eql .no (xL 1) (xL 0))) (sV (oPick (xL 3) (xL 0) (xK (bool false))) (sG (xL 0) true (sV (oMov (xT 3))) (sG (xL 1) true (sV (oMov (xT 0))) (sG (xL 2) true (sC (cFn 7) [(xL 1), (xL 0)]) (sV (oPick (xL 3) (xL 0) (xK (bool false))) (sG (xL 0) true (sC (cFn 8) []) (sV (oPick (xL 1) (xL 0) (xK (bool false))) (sS 2 (xL 0) sEnd)))))))))))))
 kRet)))))
theorem t3 : FF d3 Tryz.f3 a3 [(.t 2)] := ff Tryz.func3 (by kernel_rfl)
def x3 : XFn := .go a3 2 pd6 [(.t 2)]
def d4 : FD := ⟨4, 1, [2, 3]⟩
def a4 : CodeF := (kSeq (kReg (sS 1 (xK nils) sEnd))
 (kSeq (kReg (sS 2 (xK nils) sEnd))
 (kSeq (kReg (sV (oMov (xT 2)) (sH (oApp 3 1 (xL 0) (xT 0)) (sS 2 (xL 0) sEnd))))
 (kSeq (kReg (sV (oMov (xT 2)) (sH (oBsl 3 1 1 [(int .i64 (.ofNat 0))] [(0, 1, (xK (int .i64 (.negSucc 7170))))]) (sH (oApp 3 1 (xL 1) (xL 0)) (sS 2 (xL 0) sEnd)))))
 (kSeq (kReg (sV (oLenL (xT 0)) (sV (oSlc 1 (xT 2) none (some (xL 0)) none) (sS 1 (xL 0) sEnd))))
 kRet)))))
theorem t4 : FF d4 Tryz.f4 a4 [(.t 1)] := ff Tryz.func4 (by kernel_rfl)
def x4 : XFn := .go a4 1 pd2 [(.t 1)]
def d5 : FD := ⟨5, 2, [4, 5, 8, 32, 33, 34, 31, 11, 9, 6, 7]⟩
def a5l0 : CodeF := (kSeq (kReg (sV (oBin .lss .no (xT 6) (xT 5)) (sS 7 (xL 0) sEnd)))
 (kSeq (kCond (xT 7) kSkip
 (kExit 2))
 (kSeq (kBlock 3 (kSeq (kReg (sV (oIaddr 1 (xT 8) (xT 6)) (sV (oLoad (xL 0)) (sS 9 (xL 0) sEnd))))
 (kReg (sV (oMov (xT 10)) (sV (oMm true (xT 9) [(ki 0)]) (sV (oMm false (xL 0) [(ki 16385)]) (sV (oBin .add .no (xL 2) (xL 0)) (sS 10 (xL 0) sEnd))))))))
 (kReg (sV (oBin .add .no (xT 6) (ki 1)) (sS 6 (xL 0) sEnd))))))
def a5l1 : CodeF := (kSeq (kRegC (fun k => (sV (oBin .add .no (xT 4) (xT 1)) (sV (oLenL (xT 0)) (sV (oBin .leq .no (xL 1) (xL 0)) k)))) (xL 0) kSkip
 (kExit 0))
 (kSeq (kBlock 1 (kSeq (kReg (sS 10 (ki 0) sEnd))
 (kSeq (kSeq (kReg (sV (oBin .add .no (xT 4) (xT 1)) (sV (oSlc 1 (xT 0) (some (xT 4)) (some (xL 0)) none) (sS 8 (xL 0) (sV (oLenL (xT 8)) (sS 5 (xL 0) (sS 6 (ki 0) sEnd)))))))
 (kBlock 2 (kLoop a5l0)))
 (kRegC (fun k => (sV (oBin .lss .no (xT 10) (xT 11)) k)) (xL 0) (kReg (sS 11 (xT 10) (sS 12 (xT 4) sEnd)))
 kSkip))))
 (kReg (sV (oMov (xT 4)) (sV (oBin .add .no (xL 0) (ki 1)) (sS 4 (xL 0) sEnd))))))
def a5 : CodeF := (kSeq (kReg (sS 2 (ki 0) (sS 3 (ki 0) sEnd)))
 (kSeq (kRegC (fun k => (sV (oBin .lss .no (xT 1) (ki 2)) (sG (xL 0) false (sV (oMov (xT 1))) (sG (xL 1) false (sV (oBin .gtr .no (xL 0) (ki 16))) (sV (oPick (xL 2) (xK (bool true)) (xL 0)) k))))) (xL 0) (kSeq (kReg (sS 2 (ki 0) (sS 3 (ki 0) sEnd)))
 kRet)
 kSkip)
 (kSeq (kReg (sS 11 (ki 16385) (sS 12 (xK (int .i64 (.negSucc 0))) sEnd)))
 (kSeq (kSeq (kReg (sS 4 (ki 0) sEnd))
 (kBlock 0 (kLoop a5l1)))
 (kSeq (kRegC (fun k => (sV (oBin .lss .no (xT 12) (ki 0)) k)) (xL 0) (kSeq (kReg (sS 2 (ki 0) (sS 3 (ki 0) sEnd)))
 kRet)
 kSkip)
 (kSeq (kReg (sV (oBin .add .no (xT 12) (xT 1)) (sS 2 (xT 12) (sS 3 (xL 0) sEnd))))
 kRet))))))
theorem t5 : FF d5 Tryz.f5 a5 [(.t 2), (.t 3)] := ff Tryz.func5 (by kernel_rfl)
def x5 : XFn := .go a5 2 pd11 [(.t 2), (.t 3)]
def d6 : FD := ⟨6, 2, [4, 5, 8, 10, 9, 7, 6]⟩
def a6l0 : CodeF := (kSeq (kRegC (fun k => (sV (oBin .add .no (xT 4) (xT 1)) (sV (oBin .lss .no (xT 5) (xL 0)) k))) (xL 0) kSkip
 (kExit 2))
 (kSeq (kBlock 3 (kRegC (fun k => (sV (oIaddr 1 (xT 0) (xT 5)) (sV (oLoad (xL 0)) (sV (oBin .gtr .no (xL 0) (ki 16384)) k)))) (xL 0) (kReg (sV (oMov (xT 6)) (sV (oBin .add .no (xL 0) (ki 16384)) (sV (oBin .add .no (xL 0) (ki 1)) (sS 6 (xL 0) sEnd)))))
 (kRegC (fun k => (sV (oIaddr 1 (xT 0) (xT 5)) (sV (oLoad (xL 0)) (sV (oBin .gtr .no (xL 0) (ki 0)) k)))) (xL 0) (kReg (sV (oMov (xT 6)) (sV (oIaddr 1 (xT 0) (xT 5)) (sV (oLoad (xL 0)) (sV (oBin .add .no (xL 2) (xL 0)) (sS 6 (xL 0) sEnd))))))
 kSkip)))
 (kReg (sV (oMov (xT 5)) (sV (oBin .add .no (xL 0) (ki 1)) (sS 5 (xL 0) sEnd))))))
def a6l1 : CodeF := (kSeq (kRegC (fun k => (sV (oBin .add .no (xT 4) (xT 1)) (sV (oLenL (xT 0)) (sV (oBin .leq .no (xL 1) (xL 0)) k)))) (xL 0) kSkip
 (kExit 0))
 (kSeq (kBlock 1 (kSeq (kReg (sS 6 (ki 0) sEnd))
 (kSeq (kSeq (kReg (sS 5 (xT 4) sEnd))
 (kBlock 2 (kLoop a6l0)))
 (kRegC (fun k => (sV (oBin .leq .no (xT 6) (ki 16384)) (sG (xL 0) true (sV (oMov (xT 8))) (sG (xL 1) true (sV (oBin .lss .no (xL 0) (ki 0))) (sG (xL 2) true (sV (oMov (xL 0))) (sG (xL 0) false (sV (oMov (xT 6))) (sG (xL 1) false (sV (oMov (xT 7))) (sG (xL 2) false (sV (oBin .lss .no (xL 1) (xL 0))) (sG (xL 6) true (sV (oPick (xL 3) (xK (bool true)) (xL 0))) (sV (oPick (xL 7) (xL 0) (xK (bool false))) k)))))))))) (xL 0) (kSeq (kReg (sS 8 (xT 4) sEnd))
 (kReg (sS 7 (xT 6) sEnd)))
 kSkip))))
 (kReg (sV (oMov (xT 4)) (sV (oBin .add .no (xL 0) (ki 1)) (sS 4 (xL 0) sEnd))))))
def a6 : CodeF := (kSeq (kReg (sS 2 (ki 0) (sS 3 (ki 0) sEnd)))
 (kSeq (kRegC (fun k => (sV (oBin .lss .no (xT 1) (ki 2)) (sG (xL 0) false (sV (oMov (xT 1))) (sG (xL 1) false (sV (oBin .gtr .no (xL 0) (ki 16))) (sV (oPick (xL 2) (xK (bool true)) (xL 0)) k))))) (xL 0) (kSeq (kReg (sS 2 (ki 0) (sS 3 (ki 0) sEnd)))
 kRet)
 kSkip)
 (kSeq (kReg (sS 8 (xK (int .i64 (.negSucc 0))) sEnd))
 (kSeq (kReg (sS 7 (ki 0) sEnd))
 (kSeq (kSeq (kReg (sS 4 (ki 0) sEnd))
 (kBlock 0 (kLoop a6l1)))
 (kSeq (kRegC (fun k => (sV (oBin .lss .no (xT 8) (ki 0)) k)) (xL 0) (kSeq (kReg (sS 2 (ki 0) (sS 3 (ki 0) sEnd)))
 kRet)
 kSkip)
 (kSeq (kReg (sV (oBin .add .no (xT 8) (xT 1)) (sS 2 (xT 8) (sS 3 (xL 0) sEnd))))
 kRet)))))))
theorem t6 : FF d6 Tryz.f6 a6 [(.t 2), (.t 3)] := ff Tryz.func6 (by kernel_rfl)
def x6 : XFn := .go a6 2 pd7 [(.t 2), (.t 3)]
def d7 : FD := ⟨7, 2, [4, 5]⟩
def a7 : CodeF := (kSeq (kReg (sS 2 (xK (bool false)) sEnd))
 (kSeq (kRegC (fun k => (sC (cFn 9) [(xT 0), (xT 1)] (sV (oUn .not (xL 0)) k))) (xL 0) (kSeq (kReg (sS 2 (xK (bool false)) sEnd))
 kRet)
 kSkip)
 (kSeq (kReg (sV (oLenL (xT 0)) (sV (oBin .add .no (xL 0) (ki 1)) (sV (oSlc 1 (xT 0) none (some (xL 0)) none) (sS 3 (xL 0) sEnd)))))
 (kSeq (kReg (sV (oLenL (xT 0)) (sV (oIaddr 1 (xT 3) (xL 0)) (sV (oLoad (xL 0)) (sV (oBin .eql .no (xL 0) (xK (int .i64 (.negSucc 7170)))) (sS 2 (xL 0) sEnd))))))
 kRet))))
theorem t7 : FF d7 Tryz.f7 a7 [(.t 2)] := ff Tryz.func7 (by kernel_rfl)
def x7 : XFn := .go a7 2 pd2 [(.t 2)]
def d8 : FD := ⟨8, 0, [0, 1, 5, 4, 2, 3]⟩
def a8 : CodeF := (kSeq (kReg (sS 0 (xK (bool false)) sEnd))
 (kSeq (kReg (sC (cFn 10) [(ki 2)] (sS 1 (xL 0) sEnd)))
 (kSeq (kReg (sC (cFn 11) [(xT 1), (ki 1)] sEnd))
 (kSeq (kReg (sC (cFn 13) [] (sH (oBsl 41 1 2 [(int .u64 (.ofNat 0))] [(0, 1, (xK (int .u64 (.ofNat 3)))), (1, 1, (xK (int .u64 (.ofNat 7))))]) (sC (cFn 14) [(xL 0)] (sH (oBsl 41 1 2 [(int .u64 (.ofNat 0))] [(0, 1, (xK (int .u64 (.ofNat 5)))), (1, 1, (xK (int .u64 (.ofNat 9))))]) (sC (cFn 14) [(xL 0)] (sH (oBsl 32 1 2 [nilptr] [(0, 1, (xL 2)), (1, 1, (xL 0))]) (sC (cFn 10) [(ki 2)] (sH (oBsl 29 1 2 [nilptr] [(0, 1, (xL 0)), (1, 1, (xT 1))]) (sC (cFn 12) [(xL 7), (xL 2), (xL 0)] (sV (oExt 0 (xL 0)) (sV (oExt 1 (xL 1)) (sS 4 (xL 1) (sS 5 (xL 0) sEnd))))))))))))))
 (kSeq (kReg (sH (oBsl 3 1 4 [(int .i64 (.ofNat 0))] [(0, 1, (ki 5)), (1, 1, (ki 1)), (2, 1, (ki 1)), (3, 1, (ki 4))]) (sC (cFn 5) [(xL 0), (ki 2)] (sV (oExt 0 (xL 0)) (sV (oExt 1 (xL 1)) (sS 3 (xL 1) (sS 2 (xL 0) sEnd)))))))
 (kSeq (kReg (sV (oBin .eql .no (xT 5) (ki 0)) (sG (xL 0) true (sV (oMov (xT 4))) (sG (xL 1) true (sC (cFn 16) [(xL 0)]) (sG (xL 2) true (sH (oBsl 41 1 3 [(int .u64 (.ofNat 0))] [(0, 1, (xK (int .u64 (.ofNat 3)))), (1, 1, (xK (int .u64 (.ofNat 5)))), (2, 1, (xK (int .u64 (.ofNat 7))))])) (sG (xL 3) true (sC (cFn 15) [(xL 1), (xL 0)]) (sV (oPick (xL 4) (xL 0) (xK (bool false))) (sG (xL 0) true (sV (oMov (xT 4))) (sG (xL 1) true (sC (cFn 18) [(xL 0)]) (sG (xL 2) true (sH (oBsl 41 1 3 [(int .u64 (.ofNat 0))] [(0, 1, (xK (int .u64 (.ofNat 3)))), (1, 1, (xK (int .u64 (.ofNat 5)))), (2, 1, (xK (int .u64 (.ofNat 7))))])) (sG (xL 3) true (sC (cFn 14) [(xL 0)]) (sG (xL 4) true (sC (cFn 18) [(xL 0)]) (sG (xL 5) true (sC (cFn 17) [(xL 3), (xL 0)]) (sV (oPick (xL 6) (xL 0) (xK (bool false))) (sG (xL 0) true (sV (oMov (xT 3))) (sG (xL 1) true (sV (oBin .eql .no (xL 0) (ki 1))) (sV (oPick (xL 2) (xL 0) (xK (bool false))) (sG (xL 0) true (sV (oMov (xT 2))) (sG (xL 1) true (sV (oBin .eql .no (xL 0) (ki 3))) (sV (oPick (xL 2) (xL 0) (xK (bool false))) (sS 0 (xL 0) sEnd)))))))))))))))))))))
 kRet))))))
theorem t8 : FF d8 Tryz.f8 a8 [(.t 0)] := ff Tryz.func8 (by kernel_rfl)
def x8 : XFn := .go a8 0 pd6 [(.t 0)]
def d9 : FD := ⟨9, 2, [4, 5, 25]⟩
def a9l0 : CodeF := (kSeq (kRegC (fun k => (sV (oLenL (xT 0)) (sV (oBin .lss .no (xT 3) (xL 0)) k))) (xL 0) kSkip
 (kExit 0))
 (kSeq (kBlock 1 (kSeq (kDraw [(.v (oMov (xT 0)), none), (.v (oMov (xT 3)), none), (.v (oIaddr 1 (xL 1) (xL 0)), none), (.v (oLoad (xL 0)), none), (.v (oMov (xT 1)), none), (.v (oMov (xT 3)), none), (.v (oIaddr 1 (xL 1) (xL 0)), none), (.v (oLoad (xL 0)), none), (.v (oBin .neq .no (xL 4) (xL 0)), none)] 0 [none, none, none, none, (some 0)] [])
 (kCond (xT 4) (kSeq (kReg (sS 2 (xK (bool false)) sEnd))
 kRet)
 kSkip)))
 (kReg (sV (oMov (xT 3)) (sV (oBin .add .no (xL 0) (ki 1)) (sS 3 (xL 0) sEnd))))))
def a9 : CodeF := (kSeq (kReg (sS 2 (xK (bool false)) sEnd))
 (kSeq (kRegC (fun k => (sV (oLenL (xT 0)) (sV (oLenL (xT 1)) (sV (oBin .neq .no (xL 1) (xL 0)) k)))) (xL 0) (kSeq (kReg (sS 2 (xK (bool false)) sEnd))
 kRet)
 kSkip)
 (kSeq (kSeq (kReg (sS 3 (ki 0) sEnd))
 (kBlock 0 (kLoop a9l0)))
 (kSeq (kReg (sS 2 (xK (bool true)) sEnd))
 kRet))))
theorem t9 : FF d9 Tryz.f9 a9 [(.t 2)] := ff Tryz.func9 (by kernel_rfl)
def x9 : XFn := .go a9 2 pd3 [(.t 2)]
def d10 : FD := ⟨10, 1, [2, 3, 11, 12, 13, 4]⟩
def a10 : CodeF := (kSeq (kReg (sS 1 (xK nilptr) sEnd))
 (kSeq (kReg (sC (cFn 19) [(xT 0)] (sS 2 (xL 0) sEnd)))
 (kSeq (kSeq (kReg (sV (oNilc (xT 2)) (sV (oFaddr 0 (xL 0)) (sV (oLoad (xL 0)) (sV (oLenL (xL 0)) (sS 3 (xL 0) (sS 4 (ki 0) sEnd)))))))
 (kBlock 0 (kLoop (kSeq (kReg (sV (oBin .lss .no (xT 4) (xT 3)) (sS 5 (xL 0) sEnd)))
 (kSeq (kCond (xT 5) kSkip
 (kExit 0))
 (kSeq (kBlock 1 (kSeq (kReg (sS 6 (xT 4) sEnd))
 (kDraw [(.v (oMov (xT 2)), none), (.v (oNilc (xL 0)), none), (.v (oFaddr 0 (xL 0)), none), (.v (oLoad (xL 0)), none), (.v (oMov (xT 6)), none), (.v (oMov (xT 6)), none), (.v (oBin .add .no (xL 0) (ki 1)), none), (.v (oBin .mul .no (ki 64) (xL 0)), none), (.v (oMov (xT 2)), none), (.v (oNilc (xL 0)), none), (.v (oFaddr 1 (xL 0)), none), (.v (oLoad (xL 0)), none), (.v (oBin .sub .no (xL 4) (xL 0)), none), (.v (oMm true (ki 0) [(xL 0)]), none), (.v (oBin .shr .no (xK (int .u64 (.ofNat 18446744073709551615))) (xL 0)), none), (.v (oIaddr 1 (xL 11) (xL 10)), none), (.h (oStore 1 (xL 0) (xL 1)), none)] 0 [none, none, none, none, none, none, none] [])))
 (kReg (sV (oBin .add .no (xT 4) (ki 1)) (sS 4 (xL 0) sEnd)))))))))
 (kSeq (kReg (sS 1 (xT 2) sEnd))
 kRet))))
theorem t10 : FF d10 Tryz.f10 a10 [(.t 1)] := ff Tryz.func10 (by kernel_rfl)
def x10 : XFn := .go a10 1 pd6 [(.t 1)]
def d11 : FD := ⟨11, 2, []⟩
def a11 : CodeF := (kRegC (fun k => (sC (cFn 20) [(xT 0), (xT 1)] k)) (xL 0) (kDraw [(.v (oMov (xT 0)), none), (.v (oNilc (xL 0)), none), (.v (oFaddr 0 (xL 0)), none), (.v (oLoad (xL 0)), none), (.v (oMov (xT 1)), none), (.v (oBin .quo .no (xL 0) (ki 64)), none), (.v (oIaddr 1 (xL 2) (xL 0)), none), (.v (oLoad (xL 0)), none), (.v (oMov (xT 1)), none), (.v (oBin .rem .no (xL 0) (ki 64)), none), (.v (oBin .shl .no (xK (int .u64 (.ofNat 1))) (xL 0)), none), (.v (oBin .andNot .no (xL 3) (xL 0)), none), (.v (oIaddr 1 (xL 8) (xL 6)), none), (.h (oStore 1 (xL 0) (xL 1)), none)] 0 [none, none] [])
 kSkip)
theorem t11 : FF d11 Tryz.f11 a11 [] := ff Tryz.func11 (by kernel_rfl)
def x11 : XFn := .go a11 2 pd0 []
def d12 : FD := ⟨12, 3, [6, 7, 3, 9, 8, 24, 25, 26, 23, 12, 10]⟩
def a12 : CodeF := (kSeq (kReg (sH (oBox 38 1 (xT 0)) (sS 5 (xL 0) (sS 3 (xK nilptr) (sS 4 (ki 0) sEnd)))))
 (kSeq (kReg (sV (oLoadN 1 (xT 5)) (sC (cFn 21) [(xL 0), (xT 1), (xT 2)] (sV (oExt 0 (xL 0)) (sV (oExt 1 (xL 1)) (sS 7 (xL 1) (sS 6 (xL 0) sEnd)))))))
 (kSeq (kRegC (fun k => (sV (oBin .neq .no (xT 6) (ki 0)) k)) (xL 0) (kSeq (kReg (sS 3 (xK nilptr) (sS 4 (xT 6) sEnd)))
 kRet)
 kSkip)
 (kSeq (kReg (sS 13 (xK nils) sEnd))
 (kSeq (kSeq (kReg (sS 11 (xT 7) (sV (oLenL (xT 11)) (sS 8 (xL 0) (sS 9 (ki 0) sEnd)))))
 (kBlock 0 (kLoop (kSeq (kReg (sV (oBin .lss .no (xT 9) (xT 8)) (sS 10 (xL 0) sEnd)))
 (kSeq (kCond (xT 10) kSkip
 (kExit 0))
 (kSeq (kBlock 1 (kSeq (kReg (sV (oIaddr 3 (xT 11) (xT 9)) (sV (oLoadN 3 (xL 0)) (sH (oAlloc 58 3 [(int .i64 (.ofNat 0)), (int .i64 (.ofNat 0)), (int .u64 (.ofNat 0))]) (sS 12 (xL 0) (sH (oStore 3 (xT 12) (xL 1)) sEnd))))))
 (kDraw [(.v (oMov (xT 13)), none), (.v (oMov (xT 1)), none), (.v (oFaddr 0 (xT 12)), none), (.v (oLoad (xL 0)), none), (.v (oIaddr 1 (xL 2) (xL 0)), none), (.v (oLoad (xL 0)), none), (.v (oFaddr 1 (xT 12)), none), (.v (oLoad (xL 0)), none), (.c (cFn 22) [(xL 2), (xL 0)], none), (.h (oBsl 63 2 1 [(int .u64 (.ofNat 0)), nils] [(0, 2, (xL 0))]), none), (.h (oApp 63 2 (xL 9) (xL 0)), none), (.v (oMov (xL 0)), none)] 0 [none, none, none, none, none, none, none, none, none, none, none, none, none, (some 0)] [])))
 (kReg (sV (oBin .add .no (xT 9) (ki 1)) (sS 9 (xL 0) sEnd)))))))))
 (kSeq (kReg (sV (oLoadN 1 (xT 5)) (sC (cFn 23) [(xL 0), (xT 13)] (sV (oExt 0 (xL 0)) (sV (oExt 1 (xL 1)) (sS 3 (xL 1) (sS 4 (xL 0) sEnd)))))))
 kRet))))))
theorem t12 : FF d12 Tryz.f12 a12 [(.t 3), (.t 4)] := ff Tryz.func12 (by kernel_rfl)
def x12 (l : List Ent) : XFn := .memo l a12 3 pd11 [(.t 3), (.t 4)]
def d13 : FD := ⟨13, 0, [0]⟩
def a13 : CodeF := (kSeq (kReg (sH (oAlloc 38 1 [nils]) (sS 0 (xL 0) sEnd)))
 (kSeq (kReg (sV (oBuild [(str []), (int .i64 (.ofNat 0)), nils, (int .i64 (.ofNat 0)), (int .i64 (.ofNat 0)), (bool false), (bool false)] [(0, 1, (xK (str [107]))), (1, 1, (ki 2))]) (sH (oBsl 67 7 1 [(str []), (int .i64 (.ofNat 0)), nils, (int .i64 (.ofNat 0)), (int .i64 (.ofNat 0)), (bool false), (bool false)] [(0, 7, (xL 0))]) (sV (oBuild [nils] [(0, 1, (xL 0))]) (sH (oStore 1 (xT 0) (xL 0)) sEnd)))))
 kRet))
theorem t13 : FF d13 Tryz.f13 a13 [(.cell 0 (some 1))] := ff Tryz.func13 (by kernel_rfl)
def x13 : XFn := .go a13 0 pd1 [(.cell 0 (some 1))]
def d14 : FD := ⟨14, 1, [2, 4, 3, 5]⟩
def a14 : CodeF := (kSeq (kReg (sS 1 (xK nilptr) sEnd))
 (kSeq (kReg (sS 3 (xK nils) sEnd))
 (kSeq (kSeq (kReg (sS 2 (ki 0) sEnd))
 (kBlock 0 (kLoop (kSeq (kRegC (fun k => (sV (oLenL (xT 0)) (sV (oBin .lss .no (xT 2) (xL 0)) k))) (xL 0) kSkip
 (kExit 0))
 (kSeq (kBlock 1 (kDraw [(.v (oMov (xT 3)), none), (.v (oMov (xT 0)), none), (.v (oMov (xT 2)), none), (.v (oIaddr 1 (xL 1) (xL 0)), none), (.v (oLoad (xL 0)), none), (.v (oMov (xT 0)), none), (.v (oMov (xT 2)), none), (.v (oIaddr 1 (xL 1) (xL 0)), none), (.v (oLoad (xL 0)), none), (.v (oConv .i64 (xL 0)), none), (.c (cFn 24) [(xL 0)], none), (.v (oBuild [(str []), (str []), nils] [(0, 1, (xK (str [107]))), (1, 1, (xL 0))]), none), (.h (oBsl 71 3 1 [(str []), (str []), nils] [(0, 3, (xL 0))]), none), (.v (oBuild [nils] [(0, 1, (xL 0))]), none), (.v (oBuild [(int .u64 (.ofNat 0)), nils] [(0, 1, (xL 9)), (1, 1, (xL 0))]), none), (.h (oBsl 63 2 1 [(int .u64 (.ofNat 0)), nils] [(0, 2, (xL 0))]), none), (.h (oApp 63 2 (xL 15) (xL 0)), none), (.v (oMov (xL 0)), none)] 0 [none, none, none, (some 0), none] [(13, 7), (13, 5)]))
 (kReg (sV (oMov (xT 2)) (sV (oBin .add .no (xL 0) (ki 1)) (sS 2 (xL 0) sEnd)))))))))
 (kSeq (kReg (sC (cFn 13) [] (sC (cFn 23) [(xL 0), (xT 3)] (sV (oExt 0 (xL 0)) (sV (oExt 1 (xL 1)) (sS 4 (xL 1) sEnd))))))
 (kSeq (kReg (sS 1 (xT 4) sEnd))
 kRet)))))
theorem t14 : FF d14 Tryz.f14 a14 [(.t 1)] := ff Tryz.func14 (by kernel_rfl)
def x14 : XFn := .go a14 1 pd4 [(.t 1)]
def d15 : FD := ⟨15, 2, [4, 5, 25]⟩
def a15 : CodeF := (kSeq (kReg (sS 2 (xK (bool false)) sEnd))
 (kSeq (kRegC (fun k => (sV (oLenL (xT 0)) (sV (oLenL (xT 1)) (sV (oBin .neq .no (xL 1) (xL 0)) k)))) (xL 0) (kSeq (kReg (sS 2 (xK (bool false)) sEnd))
 kRet)
 kSkip)
 (kSeq (kSeq (kReg (sS 3 (ki 0) sEnd))
 (kBlock 0 (kLoop (kSeq (kRegC (fun k => (sV (oLenL (xT 0)) (sV (oBin .lss .no (xT 3) (xL 0)) k))) (xL 0) kSkip
 (kExit 0))
 (kSeq (kBlock 1 (kSeq (kDraw [(.v (oMov (xT 0)), none), (.v (oMov (xT 3)), none), (.v (oIaddr 1 (xL 1) (xL 0)), none), (.v (oLoad (xL 0)), none), (.v (oMov (xT 1)), none), (.v (oMov (xT 3)), none), (.v (oIaddr 1 (xL 1) (xL 0)), none), (.v (oLoad (xL 0)), none), (.v (oBin .neq .no (xL 4) (xL 0)), none)] 0 [none, none, none, none, (some 0)] [])
 (kCond (xT 4) (kSeq (kReg (sS 2 (xK (bool false)) sEnd))
 kRet)
 kSkip)))
 (kReg (sV (oMov (xT 3)) (sV (oBin .add .no (xL 0) (ki 1)) (sS 3 (xL 0) sEnd)))))))))
 (kSeq (kReg (sS 2 (xK (bool true)) sEnd))
 kRet))))
theorem t15 : FF d15 Tryz.f15 a15 [(.t 2)] := ff Tryz.func15 (by kernel_rfl)
def x15 : XFn := .go a15 2 pd3 [(.t 2)]
def d16 : FD := ⟨16, 1, [2]⟩
def a16 : CodeF := (kSeq (kReg (sS 1 (xK nils) sEnd))
 (kSeq (kRegC (fun k => (sV (oBin .eql .ptr (xT 0) (xK nilptr)) k)) (xL 0) (kSeq (kReg (sS 1 (xK nils) sEnd))
 kRet)
 kSkip)
 (kSeq (kReg (sV (oNilc (xT 0)) (sV (oFaddr 2 (xL 0)) (sV (oLoad (xL 0)) (sC (cFn 26) [(xL 0)] (sC (cFn 25) [(xL 0)] (sS 1 (xL 0) sEnd)))))))
 kRet)))
theorem t16 : FF d16 Tryz.f16 a16 [(.t 1)] := ff Tryz.func16 (by kernel_rfl)
def x16 : XFn := .go a16 1 pd1 [(.t 1)]
def d17 : FD := ⟨17, 2, [4, 5, 25]⟩
def a17 : CodeF := (kSeq (kReg (sS 2 (xK (bool false)) sEnd))
 (kSeq (kRegC (fun k => (sV (oLenL (xT 0)) (sV (oLenL (xT 1)) (sV (oBin .neq .no (xL 1) (xL 0)) k)))) (xL 0) (kSeq (kReg (sS 2 (xK (bool false)) sEnd))
 kRet)
 kSkip)
 (kSeq (kSeq (kReg (sS 3 (ki 0) sEnd))
 (kBlock 0 (kLoop (kSeq (kRegC (fun k => (sV (oLenL (xT 0)) (sV (oBin .lss .no (xT 3) (xL 0)) k))) (xL 0) kSkip
 (kExit 0))
 (kSeq (kBlock 1 (kSeq (kDraw [(.v (oMov (xT 0)), none), (.v (oMov (xT 3)), none), (.v (oIaddr 1 (xL 1) (xL 0)), none), (.v (oLoad (xL 0)), none), (.v (oMov (xT 1)), none), (.v (oMov (xT 3)), none), (.v (oIaddr 1 (xL 1) (xL 0)), none), (.v (oLoad (xL 0)), none), (.v (oBin .neq .no (xL 4) (xL 0)), none)] 0 [none, none, none, none, (some 0)] [])
 (kCond (xT 4) (kSeq (kReg (sS 2 (xK (bool false)) sEnd))
 kRet)
 kSkip)))
 (kReg (sV (oMov (xT 3)) (sV (oBin .add .no (xL 0) (ki 1)) (sS 3 (xL 0) sEnd)))))))))
 (kSeq (kReg (sS 2 (xK (bool true)) sEnd))
 kRet))))
theorem t17 : FF d17 Tryz.f17 a17 [(.t 2)] := ff Tryz.func17 (by kernel_rfl)
def x17 : XFn := .go a17 2 pd3 [(.t 2)]
def d18 : FD := ⟨18, 1, [2]⟩
def a18 : CodeF := (kSeq (kReg (sS 1 (xK nils) sEnd))
 (kSeq (kRegC (fun k => (sV (oBin .eql .ptr (xT 0) (xK nilptr)) k)) (xL 0) (kSeq (kReg (sS 1 (xK nils) sEnd))
 kRet)
 kSkip)
 (kSeq (kReg (sV (oNilc (xT 0)) (sV (oFaddr 1 (xL 0)) (sV (oLoad (xL 0)) (sC (cFn 28) [(xL 0)] (sC (cFn 27) [(xL 0)] (sS 1 (xL 0) sEnd)))))))
 kRet)))
theorem t18 : FF d18 Tryz.f18 a18 [(.t 1)] := ff Tryz.func18 (by kernel_rfl)
def x18 : XFn := .go a18 1 pd1 [(.t 1)]
def d19 : FD := ⟨19, 1, [2]⟩
def a19 : CodeF := (kSeq (kReg (sS 1 (xK nilptr) sEnd))
 (kSeq (kReg (sV (oMov (xT 0)) (sV (oMm false (xL 0) [(ki 16384)]) (sV (oMm true (ki 0) [(xL 0)]) (sS 0 (xL 0) sEnd)))))
 (kSeq (kReg (sV (oBin .add .no (xT 0) (ki 63)) (sV (oBin .quo .no (xL 0) (ki 64)) (sH (oMksl 41 1 [(int .u64 (.ofNat 0))] (xL 0) (xL 0)) (sV (oBuild [nils, (int .i64 (.ofNat 0))] [(0, 1, (xL 0)), (1, 1, (xT 0))]) (sH (oBox 51 2 (xL 0)) (sS 1 (xL 0) sEnd)))))))
 kRet)))
theorem t19 : FF d19 Tryz.f19 a19 [(.t 1)] := ff Tryz.func19 (by kernel_rfl)
def x19 : XFn := .go a19 1 pd1 [(.t 1)]
def d20 : FD := ⟨20, 2, [4]⟩
def a20 : CodeF := (kSeq (kReg (sS 2 (xK (bool false)) sEnd))
 (kSeq (kReg (sV (oBin .neq .ptr (xT 0) (xK nilptr)) (sG (xL 0) true (sV (oMov (xT 1))) (sG (xL 1) true (sV (oBin .geq .no (xL 0) (ki 0))) (sV (oPick (xL 2) (xL 0) (xK (bool false))) (sG (xL 0) true (sV (oMov (xT 1))) (sG (xL 1) true (sV (oMov (xT 0))) (sG (xL 2) true (sV (oNilc (xL 0))) (sG (xL 3) true (sV (oFaddr 1 (xL 0))) (sG (xL 4) true (sV (oLoad (xL 0))) (sG (xL 5) true (sV (oBin .lss .no (xL 4) (xL 0))) (sV (oPick (xL 6) (xL 0) (xK (bool false))) (sS 2 (xL 0) sEnd)))))))))))))
 kRet))
theorem t20 : FF d20 Tryz.f20 a20 [(.t 2)] := ff Tryz.func20 (by kernel_rfl)
def x20 : XFn := .go a20 2 pd1 [(.t 2)]
def d21 : FD := ⟨21, 3, [6, 7, 3, 21, 22, 23, 20, 9, 8, 52, 10, 59, 60, 61, 11, 78]⟩
def a21 : CodeF := (kSeq (kReg (sH (oBox 38 1 (xT 0)) (sS 5 (xL 0) (sS 3 (xK nils) (sS 4 (ki 0) sEnd)))))
 (kSeq (kRegC (fun k => (sV (oLoadN 1 (xT 5)) (sC (cFn 29) [(xL 0)] (sV (oBin .neq .no (xL 0) (ki 0)) k)))) (xL 0) (kSeq (kReg (sS 3 (xK nils) (sS 4 (ki 80) sEnd)))
 kRet)
 kSkip)
 (kSeq (kRegC (fun k => (sV (oLenL (xT 1)) (sV (oLenL (xT 2)) (sV (oBin .neq .no (xL 1) (xL 0)) k)))) (xL 0) (kSeq (kReg (sS 3 (xK nils) (sS 4 (ki 1) sEnd)))
 kRet)
 kSkip)
 (kSeq (kSeq (kReg (sS 9 (xT 1) (sV (oLenL (xT 9)) (sS 6 (xL 0) (sS 7 (ki 0) sEnd)))))
 (kBlock 0 (kLoop (kSeq (kReg (sV (oBin .lss .no (xT 7) (xT 6)) (sS 8 (xL 0) sEnd)))
 (kSeq (kCond (xT 8) kSkip
 (kExit 0))
 (kSeq (kBlock 1 (kSeq (kReg (sV (oIaddr 1 (xT 9) (xT 7)) (sV (oLoad (xL 0)) (sS 11 (xT 7) (sS 10 (xL 0) sEnd)))))
 (kSeq (kDraw [(.v (oMov (xT 10)), none), (.v (oBin .eql .ptr (xL 0) (xK nilptr)), none), (.v (oMov (xL 0)), none), (.v (oMov (xT 10)), (some ((xL 0), false))), (.c (cFn 31) [(xL 0)], (some ((xL 1), false))), (.v (oLoadN 1 (xT 5)), (some ((xL 2), false))), (.c (cFn 30) [(xL 1), (xL 0)], (some ((xL 3), false))), (.v (oUn .not (xL 0)), (some ((xL 4), false))), (.v (oPick (xL 5) (xK (bool true)) (xL 0)), none), (.v (oMov (xL 0)), none), (.v (oMov (xT 2)), (some ((xL 0), false))), (.v (oMov (xT 11)), (some ((xL 1), false))), (.v (oIaddr 1 (xL 1) (xL 0)), (some ((xL 2), false))), (.v (oLoad (xL 0)), (some ((xL 3), false))), (.v (oBin .neq .ptr (xL 0) (xK nilptr)), (some ((xL 4), false))), (.v (oMov (xL 0)), (some ((xL 5), false))), (.v (oMov (xT 2)), (some ((xL 0), true))), (.v (oMov (xT 11)), (some ((xL 1), true))), (.v (oIaddr 1 (xL 1) (xL 0)), (some ((xL 2), true))), (.v (oLoad (xL 0)), (some ((xL 3), true))), (.c (cFn 32) [(xL 0)], (some ((xL 4), true))), (.v (oMov (xT 10)), (some ((xL 5), true))), (.c (cFn 33) [(xL 0)], (some ((xL 6), true))), (.v (oBin .neq .no (xL 2) (xL 0)), (some ((xL 7), true))), (.v (oPick (xL 8) (xL 0) (xK (bool false))), (some ((xL 14), false))), (.v (oPick (xL 15) (xK (bool true)) (xL 0)), none)] 0 [none, none, none, none, none, none, none, none, none, none, none, none, (some 0), none, none, none, none, none, none] [(20, 21)])
 (kCond (xT 12) (kSeq (kReg (sS 3 (xK nils) (sS 4 (ki 1) sEnd)))
 kRet)
 kSkip))))
 (kReg (sV (oBin .add .no (xT 7) (ki 1)) (sS 7 (xL 0) sEnd)))))))))
 (kSeq (kReg (sC (cFn 35) [(xT 1), (xT 2)] (sC (cFn 34) [(xL 0)] (sS 13 (xL 0) sEnd))))
 (kSeq (kSeq (kReg (sV (oLenL (xT 13)) (sS 14 (xL 0) (sS 15 (ki 0) sEnd))))
 (kBlock 2 (kLoop (kSeq (kReg (sV (oBin .lss .no (xT 15) (xT 14)) (sS 16 (xL 0) sEnd)))
 (kSeq (kCond (xT 16) kSkip
 (kExit 2))
 (kSeq (kBlock 3 (kSeq (kReg (sS 17 (xT 15) sEnd))
 (kSeq (kDraw [(.v (oMov (xT 17)), none), (.v (oBin .gtr .no (xL 0) (ki 0)), none), (.v (oMov (xL 0)), none), (.v (oMov (xT 13)), (some ((xL 0), true))), (.v (oMov (xT 17)), (some ((xL 1), true))), (.v (oBin .sub .no (xL 0) (ki 1)), (some ((xL 2), true))), (.v (oIaddr 3 (xL 2) (xL 0)), (some ((xL 3), true))), (.v (oFaddr 2 (xL 0)), (some ((xL 4), true))), (.v (oLoad (xL 0)), (some ((xL 5), true))), (.v (oMov (xT 13)), (some ((xL 6), true))), (.v (oMov (xT 17)), (some ((xL 7), true))), (.v (oIaddr 3 (xL 1) (xL 0)), (some ((xL 8), true))), (.v (oFaddr 2 (xL 0)), (some ((xL 9), true))), (.v (oLoad (xL 0)), (some ((xL 10), true))), (.v (oBin .eql .no (xL 5) (xL 0)), (some ((xL 11), true))), (.v (oPick (xL 12) (xL 0) (xK (bool false))), none)] 0 [none, none, none, none, none, none, none, none, none, none, none, none, none, none, none, none, none, none, (some 0)] [])
 (kCond (xT 18) (kSeq (kReg (sS 3 (xK nils) (sS 4 (ki 1) sEnd)))
 kRet)
 kSkip))))
 (kReg (sV (oBin .add .no (xT 15) (ki 1)) (sS 15 (xL 0) sEnd)))))))))
 (kSeq (kRegC (fun k => (sV (oLenL (xT 13)) (sV (oBin .gtr .no (xL 0) (ki 16384)) k))) (xL 0) (kSeq (kReg (sS 3 (xK nils) (sS 4 (ki 3) sEnd)))
 kRet)
 kSkip)
 (kSeq (kReg (sS 3 (xT 13) (sS 4 (ki 0) sEnd)))
 kRet))))))))
theorem t21 : FF d21 Tryz.f21 a21 [(.t 3), (.t 4)] := ff Tryz.func21 (by kernel_rfl)
def x21 : XFn := .go a21 3 pd16 [(.t 3), (.t 4)]
def d22 : FD := ⟨22, 2, [4]⟩
def a22 : CodeF := (kSeq (kReg (sH (oAlloc 63 2 [(int .u64 (.ofNat 0)), nils]) (sS 2 (xL 0) sEnd)))
 (kSeq (kRegC (fun k => (sV (oBin .lss .no (xT 1) (ki 0)) (sG (xL 0) false (sV (oMov (xT 1))) (sG (xL 1) false (sV (oMov (xT 0))) (sG (xL 2) false (sC (cFn 33) [(xL 0)]) (sG (xL 3) false (sV (oBin .geq .no (xL 2) (xL 0))) (sV (oPick (xL 4) (xK (bool true)) (xL 0)) k))))))) (xL 0) (kSeq (kReg (sV (oBuild [(int .u64 (.ofNat 0)), nils] []) (sH (oStore 2 (xT 2) (xL 0)) sEnd)))
 kRet)
 kSkip)
 (kSeq (kDraw [(.v (oMov (xT 0)), none), (.v (oNilc (xL 0)), none), (.v (oFaddr 2 (xL 0)), none), (.v (oLoad (xL 0)), none), (.v (oMov (xT 1)), none), (.v (oIaddr 1 (xL 1) (xL 0)), none), (.v (oLoad (xL 0)), none), (.v (oMov (xT 0)), none), (.v (oNilc (xL 0)), none), (.v (oFaddr 3 (xL 0)), none), (.v (oLoad (xL 0)), none), (.v (oMov (xT 1)), none), (.c (cFn 36) [(xL 1), (xL 0)], none), (.v (oBuild [nils] [(0, 1, (xL 0))]), none), (.v (oBuild [(int .u64 (.ofNat 0)), nils] [(0, 1, (xL 7)), (1, 1, (xL 0))]), none), (.h (oStore 2 (xT 2) (xL 0)), none)] 0 [none, none, none] [(12, 3), (9, 3)])
 kRet)))
theorem t22 : FF d22 Tryz.f22 a22 [(.cell 2 (some 2))] := ff Tryz.func22 (by kernel_rfl)
def x22 : XFn := .go a22 2 pd1 [(.cell 2 (some 2))]
def d23 : FD := ⟨23, 2, [4, 5, 2, 6]⟩
def a23 : CodeF := (kSeq (kReg (sH (oBox 38 1 (xT 0)) (sS 4 (xL 0) (sH (oAlloc 32 1 [nilptr]) (sS 2 (xL 0) (sH (oAlloc 33 1 [(int .i64 (.ofNat 0))]) (sS 3 (xL 0) sEnd)))))))
 (kSeq (kReg (sDef (xK (.func (.func 37) [] [])) [(xT 2), (xT 3)] sEnd))
 (kSeq (kReg (sV (oLoadN 1 (xT 4)) (sC (cFn 39) [(xL 0), (xT 1)] (sV (oExt 0 (xL 0)) (sV (oExt 1 (xL 1)) (sC (cFn 38) [(xL 1), (xL 0)] (sS 5 (xL 0) sEnd)))))))
 (kSeq (kDraw [(.v (oLoadN 1 (xT 4)), none), (.v (oLoadN 1 (xT 4)), none), (.v (oMov (xT 5)), none), (.c (cFn 41) [(xL 1), (xL 0)], none), (.c (cFn 40) [(xL 3), (xL 0)], none), (.h (oStore 1 (xT 2) (xL 0)), none), (.h (oStore 1 (xT 3) (ki 0)), none)] 0 [none, none, none, none, none, none] [(6, 3)])
 kRet))))
theorem t23 : FF d23 Tryz.f23 a23 [(.cell 2 none), (.cell 3 none)] := ff Tryz.func23 (by kernel_rfl)
def x23 (l : List Ent) : XFn := .memo l a23 2 pd4 [(.cell 2 none), (.cell 3 none)]
def d24 : FD := ⟨24, 1, [2]⟩
def a24 : CodeF := (kSeq (kReg (sS 1 (xK (str [])) sEnd))
 (kSeq (kReg (sV (oConv .u8 (xT 0)) (sV (oBin .shr .no (xT 0) (xK (int .u64 (.ofNat 8)))) (sV (oConv .u8 (xL 0)) (sV (oBin .shr .no (xT 0) (xK (int .u64 (.ofNat 16)))) (sV (oConv .u8 (xL 0)) (sH (oBsl 5 1 4 [(int .u8 (.ofNat 0))] [(0, 1, (xL 4)), (1, 1, (xL 2)), (2, 1, (xL 0)), (3, 1, (xK (int .u8 (.ofNat 77))))]) (sV (oB2s (xL 0)) (sS 1 (xL 0) sEnd)))))))))
 kRet))
theorem t24 : FF d24 Tryz.f24 a24 [(.t 1)] := ff Tryz.func24 (by kernel_rfl)
def x24 : XFn := .go a24 1 pd1 [(.t 1)]
def d25 : FD := ⟨25, 1, [2]⟩
def a25 : CodeF := (kSeq (kReg (sS 1 (xK nils) sEnd))
 (kSeq (kReg (sV (oLenL (xT 0)) (sV (oLenL (xT 0)) (sV (oSlc 1 (xT 0) none (some (xL 1)) (some (xL 0))) (sS 1 (xL 0) sEnd)))))
 kRet))
theorem t25 : FF d25 Tryz.f25 a25 [(.t 1)] := ff Tryz.func25 (by kernel_rfl)
def x25 : XFn := .go a25 1 pd1 [(.t 1)]
def d26 : FD := ⟨26, 1, [2]⟩
def a26 : CodeF := (kSeq (kReg (sS 1 (xK nils) sEnd))
 (kSeq (kRegC (fun k => (sV (oBin .eql .slice (xT 0) (xK nils)) k)) (xL 0) (kSeq (kReg (sS 1 (xK nils) sEnd))
 kRet)
 kSkip)
 (kSeq (kReg (sH (oBsl 41 1 0 [(int .u64 (.ofNat 0))] []) (sH (oApp 41 1 (xL 0) (xT 0)) (sS 1 (xL 0) sEnd))))
 kRet)))
theorem t26 : FF d26 Tryz.f26 a26 [(.t 1)] := ff Tryz.func26 (by kernel_rfl)
def x26 : XFn := .go a26 1 pd1 [(.t 1)]
def d27 : FD := ⟨27, 1, [2]⟩
def a27 : CodeF := (kSeq (kReg (sS 1 (xK nils) sEnd))
 (kSeq (kReg (sV (oLenL (xT 0)) (sV (oLenL (xT 0)) (sV (oSlc 1 (xT 0) none (some (xL 1)) (some (xL 0))) (sS 1 (xL 0) sEnd)))))
 kRet))
theorem t27 : FF d27 Tryz.f27 a27 [(.t 1)] := ff Tryz.func27 (by kernel_rfl)
def x27 : XFn := .go a27 1 pd1 [(.t 1)]
def d28 : FD := ⟨28, 1, [2]⟩
def a28 : CodeF := (kSeq (kReg (sS 1 (xK nils) sEnd))
 (kSeq (kRegC (fun k => (sV (oBin .eql .slice (xT 0) (xK nils)) k)) (xL 0) (kSeq (kReg (sS 1 (xK nils) sEnd))
 kRet)
 kSkip)
 (kSeq (kReg (sH (oBsl 5 1 0 [(int .u8 (.ofNat 0))] []) (sH (oApp 5 1 (xL 0) (xT 0)) (sS 1 (xL 0) sEnd))))
 kRet)))
theorem t28 : FF d28 Tryz.f28 a28 [(.t 1)] := ff Tryz.func28 (by kernel_rfl)
def x28 : XFn := .go a28 1 pd1 [(.t 1)]
def d29 : FD := ⟨29, 1, [2, 1, 19, 20, 21, 18, 4, 3, 5]⟩
def a29 : CodeF := (kSeq (kReg (sH (oBox 38 1 (xT 0)) (sS 2 (xL 0) (sS 1 (ki 0) sEnd))))
 (kSeq (kRegC (fun k => (sV (oFaddr 0 (xT 2)) (sV (oLoad (xL 0)) (sV (oLenL (xL 0)) (sV (oBin .lss .no (xL 0) (ki 1)) (sG (xL 0) false (sV (oFaddr 0 (xT 2))) (sG (xL 1) false (sV (oLoad (xL 0))) (sG (xL 2) false (sV (oLenL (xL 0))) (sG (xL 3) false (sV (oBin .gtr .no (xL 0) (ki 16))) (sV (oPick (xL 4) (xK (bool true)) (xL 0)) k)))))))))) (xL 0) (kSeq (kReg (sS 1 (ki 80) sEnd))
 kRet)
 kSkip)
 (kSeq (kSeq (kReg (sV (oFaddr 0 (xT 2)) (sV (oLoad (xL 0)) (sS 6 (xL 0) (sV (oLenL (xT 6)) (sS 3 (xL 0) (sS 4 (ki 0) sEnd)))))))
 (kBlock 0 (kLoop (kSeq (kReg (sV (oBin .lss .no (xT 4) (xT 3)) (sS 5 (xL 0) sEnd)))
 (kSeq (kCond (xT 5) kSkip
 (kExit 0))
 (kSeq (kBlock 1 (kSeq (kReg (sV (oIaddr 7 (xT 6) (xT 4)) (sV (oLoadN 7 (xL 0)) (sH (oAlloc 67 7 [(str []), (int .i64 (.ofNat 0)), nils, (int .i64 (.ofNat 0)), (int .i64 (.ofNat 0)), (bool false), (bool false)]) (sS 7 (xL 0) (sS 8 (xT 4) (sH (oStore 7 (xT 7) (xL 1)) sEnd)))))))
 (kSeq (kReg (sV (oLoadN 1 (xT 2)) (sV (oFaddr 0 (xT 7)) (sV (oLoad (xL 0)) (sC (cFn 42) [(xL 2), (xL 0)] (sV (oExt 0 (xL 0)) (sV (oExt 1 (xL 1)) (sS 9 (xL 1) sEnd))))))))
 (kRegC (fun k => (sV (oBin .neq .no (xT 9) (xT 8)) (sG (xL 0) false (sV (oLoadN 7 (xT 7))) (sG (xL 1) false (sC (cFn 43) [(xL 0)]) (sG (xL 2) false (sV (oUn .not (xL 0))) (sV (oPick (xL 3) (xK (bool true)) (xL 0)) k)))))) (xL 0) (kSeq (kReg (sS 1 (ki 80) sEnd))
 kRet)
 kSkip))))
 (kReg (sV (oBin .add .no (xT 4) (ki 1)) (sS 4 (xL 0) sEnd)))))))))
 (kSeq (kReg (sS 1 (ki 0) sEnd))
 kRet))))
theorem t29 : FF d29 Tryz.f29 a29 [(.t 1)] := ff Tryz.func29 (by kernel_rfl)
def x29 : XFn := .go a29 1 pd9 [(.t 1)]
def d30 : FD := ⟨30, 2, [4, 3, 2]⟩
def a30 : CodeF := (kSeq (kReg (sH (oBox 38 1 (xT 0)) (sS 4 (xL 0) (sH (oBox 38 1 (xT 1)) (sS 3 (xL 0) (sS 2 (xK (bool false)) sEnd))))))
 (kSeq (kReg (sV (oFaddr 0 (xT 4)) (sV (oLoad (xL 0)) (sV (oFaddr 0 (xT 3)) (sV (oLoad (xL 0)) (sC (cFn 44) [(xL 2), (xL 0), (xK (.func (.func 45) [] []))] (sS 2 (xL 0) sEnd)))))))
 kRet))
theorem t30 : FF d30 Tryz.f30 a30 [(.t 2)] := ff Tryz.func30 (by kernel_rfl)
def x30 : XFn := .go a30 2 pd3 [(.t 2)]
def d31 : FD := ⟨31, 1, [2]⟩
def a31 : CodeF := (kSeq (kReg (sH (oAlloc 38 1 [nils]) (sS 1 (xL 0) sEnd)))
 (kSeq (kRegC (fun k => (sV (oBin .eql .ptr (xT 0) (xK nilptr)) k)) (xL 0) (kSeq (kReg (sV (oBuild [nils] []) (sH (oStore 1 (xT 1) (xL 0)) sEnd)))
 kRet)
 kSkip)
 (kSeq (kReg (sV (oNilc (xT 0)) (sV (oFaddr 0 (xL 0)) (sV (oLoadN 1 (xL 0)) (sC (cFn 47) [(xL 0)] (sH (oStore 1 (xT 1) (xL 0)) sEnd))))))
 kRet)))
theorem t31 : FF d31 Tryz.f31 a31 [(.cell 1 (some 1))] := ff Tryz.func31 (by kernel_rfl)
def x31 : XFn := .go a31 1 pd1 [(.cell 1 (some 1))]
def d32 : FD := ⟨32, 1, [2]⟩
def a32 : CodeF := (kSeq (kReg (sS 1 (ki 0) sEnd))
 (kSeq (kRegC (fun k => (sV (oBin .eql .ptr (xT 0) (xK nilptr)) k)) (xL 0) (kSeq (kReg (sS 1 (ki 0) sEnd))
 kRet)
 kSkip)
 (kSeq (kReg (sV (oNilc (xT 0)) (sV (oFaddr 1 (xL 0)) (sV (oLoad (xL 0)) (sS 1 (xL 0) sEnd)))))
 kRet)))
theorem t32 : FF d32 Tryz.f32 a32 [(.t 1)] := ff Tryz.func32 (by kernel_rfl)
def x32 : XFn := .go a32 1 pd1 [(.t 1)]
def d33 : FD := ⟨33, 1, [2]⟩
def a33 : CodeF := (kSeq (kReg (sS 1 (ki 0) sEnd))
 (kSeq (kRegC (fun k => (sV (oBin .eql .ptr (xT 0) (xK nilptr)) k)) (xL 0) (kSeq (kReg (sS 1 (ki 0) sEnd))
 kRet)
 kSkip)
 (kSeq (kReg (sV (oNilc (xT 0)) (sV (oFaddr 2 (xL 0)) (sV (oLoad (xL 0)) (sV (oLenL (xL 0)) (sS 1 (xL 0) sEnd))))))
 kRet)))
theorem t33 : FF d33 Tryz.f33 a33 [(.t 1)] := ff Tryz.func33 (by kernel_rfl)
def x33 : XFn := .go a33 1 pd1 [(.t 1)]
def d34 : FD := ⟨34, 1, [2]⟩
def a34 : CodeF := (kSeq (kReg (sS 1 (xK nils) sEnd))
 (kSeq (kReg (sC (cFn 48) [(xK nils), (xT 0)] (sS 1 (xL 0) sEnd)))
 kRet))
theorem t34 : FF d34 Tryz.f34 a34 [(.t 1)] := ff Tryz.func34 (by kernel_rfl)
def x34 : XFn := .go a34 1 pd1 [(.t 1)]
def d35 : FD := ⟨35, 2, [4, 3, 2]⟩
def a35 : CodeF := (kSeq (kReg (sH (oBox 42 1 (xT 0)) (sS 4 (xL 0) (sH (oBox 43 1 (xT 1)) (sS 3 (xL 0) (sS 2 (xK nilfunc) sEnd))))))
 (kSeq (kReg (sV (oMkfn 49 [] [(xT 4), (xT 3)]) (sS 2 (xL 0) sEnd)))
 kRet))
theorem t35 : FF d35 Tryz.f35 a35 [(.t 2)] := ff Tryz.func35 (by kernel_rfl)
def x35 : XFn := .go a35 2 pd3 [(.t 2)]
def d36 : FD := ⟨36, 2, [4, 3, 16, 5, 34, 35, 36, 7, 8]⟩
def a36 : CodeF := (kSeq (kReg (sH (oBox 3 1 (xT 1)) (sS 3 (xL 0) (sH (oAlloc 59 1 [nils]) (sS 2 (xL 0) sEnd)))))
 (kSeq (kSeq (kDraw [(.v (oLoad (xT 3)), none), (.v (oBin .lss .no (xL 0) (ki 0)), none), (.v (oMov (xL 0)), none), (.v (oLoad (xT 3)), (some ((xL 0), false))), (.v (oMov (xT 0)), (some ((xL 1), false))), (.c (cFn 55) [(xL 0)], (some ((xL 2), false))), (.v (oBin .geq .no (xL 2) (xL 0)), (some ((xL 3), false))), (.v (oPick (xL 4) (xK (bool true)) (xL 0)), none)] 0 [none, none, none, none, (some 0), none, none, none, none, none, none] [(4, 2)])
 (kCond (xT 4) (kSeq (kReg (sH (oStore 1 (xT 2) (xK nils)) sEnd))
 kRet)
 kSkip))
 (kSeq (kDraw [(.v (oMov (xT 0)), none), (.v (oNilc (xL 0)), none), (.v (oFaddr 0 (xL 0)), none), (.v (oLoad (xL 0)), none), (.v (oLoad (xT 3)), none), (.v (oBin .add .no (xL 0) (ki 1)), none), (.c (cFn 56) [(xL 2), (xL 0), (xK (.func (.func 57) [] []))], none), (.v (oMov (xL 0)), none), (.v (oExt 0 (xL 0)), none), (.v (oExt 1 (xL 1)), none), (.v (oMov (xL 1)), none), (.v (oMov (xL 1)), none)] 0 [none, none, none, none, none, (some 1), none, none, none, none, none] [])
 (kSeq (kSeq (kReg (sV (oNilc (xT 0)) (sV (oFaddr 0 (xL 0)) (sV (oLoad (xL 0)) (sV (oIaddr 3 (xL 0) (xT 5)) (sV (oLoadN 3 (xL 0)) (sC (cFn 58) [(xL 0)] (sS 6 (xL 0) sEnd))))))))
 (kBlock 0 (kRf 67111226 [7, 8] (xT 6))))
 (kSeq (kReg (sH (oStore 1 (xT 2) (xK nils)) sEnd))
 kRet)))))
theorem t36 : FF d36 Tryz.f36 a36 [(.cell 2 none)] := ff Tryz.func36 (by kernel_rfl)
def x36 : XFn := .go a36 2 pd9 [(.cell 2 none)]
def r36x0 : CodeF × CodeF := ((kSeq (kReg (sS 9 (xT 7) sEnd))
 (kReg (sS 10 (xT 8) sEnd))),
 (kBlock 1 (kRegC (fun k => (sV (oLoad (xT 3)) (sV (oBin .eql .no (xT 9) (xL 0)) k))) (xL 0) (kSeq (kReg (sH (oStore 1 (xT 2) (xT 10)) sEnd))
 kRet)
 kSkip)))
theorem u36x0 : RfFact Tryz.prog d36 Tryz.f36 67111226 r36x0 := ⟨Tryz.func36, by kernel_rfl⟩
def d37 : FD := ⟨37, 2, [7, 12, 5, 6]⟩
def a37 : CodeF := (kSeq (kReg (sRec (sS 2 (xL 0) sEnd)))
 (kBlock 0 (kRegC (fun k => (sV (oBin .eql (.iface true) (xT 2) (xK nilif)) k)) (xL 0) (kReg sEnd)
 (kRegC (fun k => (sV (oTass 127 (agg [(int .i64 (.ofNat 0))]) (xT 2)) (sV (oExt 1 (xL 0)) (sV (oExt 0 (xL 1)) (sS 3 (xL 0) k))))) (xL 1) (kSeq (kReg (sH (oAlloc 127 1 [(int .i64 (.ofNat 0))]) (sS 4 (xL 0) (sH (oStore 1 (xT 4) (xT 3)) sEnd))))
 (kDraw [(.v (oMov (xT 0)), none), (.v (oMov (xT 1)), none), (.v (oFaddr 0 (xT 4)), none), (.v (oLoad (xL 0)), none), (.v (oNilc (xL 3)), none), (.h (oStore 1 (xL 0) (xK nilptr)), none), (.v (oNilc (xL 4)), none), (.h (oStore 1 (xL 0) (xL 3)), none)] 0 [none, none, none, none, none, none] [(4, 2)]))
 (kSeq (kReg (sS 5 (xT 2) sEnd))
 (kReg (sPan (xT 5))))))))
theorem t37 : FF d37 Tryz.f37 a37 [] := ff Tryz.func37 (by kernel_rfl)
def x37 : XFn := .go a37 2 pd4 []
def d38 : FD := ⟨38, 2, [4]⟩
def a38 : CodeF := (kSeq (kReg (sS 2 (xK nilptr) sEnd))
 (kSeq (kRegC (fun k => (sV (oBin .neq .no (xT 1) (ki 0)) k)) (xL 0) (kReg (sV (oBuild [(int .i64 (.ofNat 0))] [(0, 1, (xT 1))]) (sV (oMkif 127 (xL 0)) (sPan (xL 0)))))
 kSkip)
 (kSeq (kReg (sS 2 (xT 0) sEnd))
 kRet)))
theorem t38 : FF d38 Tryz.f38 a38 [(.t 2)] := ff Tryz.func38 (by kernel_rfl)
def x38 : XFn := .go a38 2 pd1 [(.t 2)]
def d39 : FD := ⟨39, 2, [4, 5, 2, 6, 8, 31, 32, 33, 9, 45, 46, 47, 44, 11, 13, 7, 85, 86, 87, 84, 14, 12, 10, 15, 102, 103, 104, 101, 17]⟩
def a39 : CodeF := (kSeq (kReg (sH (oBox 38 1 (xT 0)) (sS 4 (xL 0) (sS 2 (xK nilptr) (sS 3 (ki 0) sEnd)))))
 (kSeq (kSeq (kReg (sV (oLoadN 1 (xT 4)) (sC (cFn 59) [(xL 0), (xT 1)] (sS 5 (xL 0) sEnd))))
 (kRegC (fun k => (sV (oBin .neq .no (xT 5) (ki 0)) k)) (xL 0) (kSeq (kReg (sS 2 (xK nilptr) (sS 3 (xT 5) sEnd)))
 kRet)
 kSkip))
 (kSeq (kReg (sV (oBuild [nils, nils, nils] []) (sH (oBox 132 3 (xL 0)) (sS 17 (xL 0) sEnd))))
 (kSeq (kReg (sV (oFaddr 0 (xT 4)) (sV (oLoad (xL 0)) (sV (oLenL (xL 0)) (sH (oMksl 134 1 [nilptr] (xL 0) (xL 0)) (sS 6 (xL 0) sEnd))))))
 (kSeq (kSeq (kReg (sV (oLenL (xT 6)) (sS 7 (xL 0) (sS 8 (ki 0) sEnd))))
 (kBlock 0 (kLoop (kSeq (kReg (sV (oBin .lss .no (xT 8) (xT 7)) (sS 9 (xL 0) sEnd)))
 (kSeq (kCond (xT 9) kSkip
 (kExit 0))
 (kSeq (kBlock 1 (kSeq (kReg (sS 10 (xT 8) sEnd))
 (kReg (sV (oLoadN 1 (xT 4)) (sH oMkmap (sV (oBuild [nils, nils, nils, nils, nils, nils, nils, (int .i64 (.ofNat 0)), nilmap] [(6, 1, (xL 1)), (7, 1, (xT 10)), (8, 1, (xL 0))]) (sH (oBox 144 9 (xL 0)) (sV (oIaddr 1 (xT 6) (xT 10)) (sH (oStore 1 (xL 0) (xL 1)) sEnd)))))))))
 (kReg (sV (oBin .add .no (xT 8) (ki 1)) (sS 8 (xL 0) sEnd)))))))))
 (kSeq (kSeq (kReg (sS 14 (xT 1) (sV (oLenL (xT 14)) (sS 11 (xL 0) (sS 12 (ki 0) sEnd)))))
 (kBlock 2 (kLoop (kSeq (kReg (sV (oBin .lss .no (xT 12) (xT 11)) (sS 13 (xL 0) sEnd)))
 (kSeq (kCond (xT 13) kSkip
 (kExit 2))
 (kSeq (kBlock 3 (kSeq (kReg (sV (oIaddr 2 (xT 14) (xT 12)) (sV (oLoadN 2 (xL 0)) (sH (oAlloc 63 2 [(int .u64 (.ofNat 0)), nils]) (sS 15 (xL 0) (sS 24 (xT 12) (sH (oStore 2 (xT 15) (xL 1)) sEnd)))))))
 (kSeq (kReg (sV (oLoadN 1 (xT 4)) (sV (oFaddr 1 (xT 15)) (sV (oLoadN 1 (xL 0)) (sC (cFn 60) [(xL 2), (xL 0)] (sV (oExt 0 (xL 0)) (sV (oExt 1 (xL 1)) (sS 23 (xL 1) (sS 16 (xL 0) sEnd)))))))))
 (kSeq (kRegC (fun k => (sV (oBin .neq .no (xT 16) (ki 0)) k)) (xL 0) (kSeq (kReg (sS 2 (xK nilptr) (sS 3 (xT 16) sEnd)))
 kRet)
 kSkip)
 (kSeq (kDraw [(.v (oMov (xT 17)), none), (.v (oMov (xT 17)), none), (.v (oNilc (xL 0)), none), (.v (oFaddr 0 (xL 0)), none), (.v (oLoad (xL 0)), none), (.v (oFaddr 0 (xT 15)), none), (.v (oLoad (xL 0)), none), (.h (oBsl 41 1 1 [(int .u64 (.ofNat 0))] [(0, 1, (xL 0))]), none), (.h (oApp 41 1 (xL 3) (xL 0)), none), (.v (oNilc (xL 8)), none), (.v (oFaddr 0 (xL 0)), none), (.h (oStore 1 (xL 0) (xL 2)), none)] 0 [none, none, none, none, none, none, none, none, none, none, none, none, none, none, none, none, none, none, none, none, none, none, none, none, none, none, none, none, none, none, none] [(7, 4)])
 (kSeq (kDraw [(.v (oMov (xT 17)), none), (.v (oMov (xT 17)), none), (.v (oNilc (xL 0)), none), (.v (oFaddr 1 (xL 0)), none), (.v (oLoad (xL 0)), none), (.v (oFaddr 1 (xT 15)), none), (.v (oLoadN 1 (xL 0)), none), (.c (cFn 61) [(xL 0)], none), (.h (oBsl 61 1 1 [nils] [(0, 1, (xL 0))]), none), (.h (oApp 61 1 (xL 4) (xL 0)), none), (.v (oNilc (xL 9)), none), (.v (oFaddr 1 (xL 0)), none), (.h (oStore 1 (xL 0) (xL 2)), none)] 0 [none, none, none, none, none, none, none, none, none, none, none, none, none, none, none, none, none, none, none, none, none, none, none, none, none, none, none, none, none, none, none] [(8, 5), (8, 4)])
 (kSeq (kReg (sS 21 (xT 6) (sV (oLenL (xT 21)) (sS 18 (xL 0) (sS 19 (ki 0) sEnd)))))
 (kBlock 4 (kLoop (kSeq (kReg (sV (oBin .lss .no (xT 19) (xT 18)) (sS 20 (xL 0) sEnd)))
 (kSeq (kCond (xT 20) kSkip
 (kExit 4))
 (kSeq (kBlock 5 (kSeq (kReg (sV (oIaddr 1 (xT 21) (xT 19)) (sV (oLoad (xL 0)) (sH (oAlloc 3 1 [(int .i64 (.ofNat 0))]) (sS 22 (xL 0) (sH (oStore 1 (xT 22) (xT 19)) (sS 25 (xL 2) sEnd)))))))
 (kReg (sC (cFn 62) [(xT 25)] (sC (cFn 64) [(xT 23)] (sV (oMkfn 65 [] [(xT 22)]) (sC (cFn 63) [(xL 1), (xL 0)] (sC (cVal (xL 3)) [(xT 24), (xL 0)] sEnd))))))))
 (kReg (sV (oBin .add .no (xT 19) (ki 1)) (sS 19 (xL 0) sEnd)))))))))))))))
 (kReg (sV (oBin .add .no (xT 12) (ki 1)) (sS 12 (xL 0) sEnd)))))))))
 (kSeq (kSeq (kReg (sS 29 (xT 6) (sV (oLenL (xT 29)) (sS 26 (xL 0) (sS 27 (ki 0) sEnd)))))
 (kBlock 6 (kLoop (kSeq (kReg (sV (oBin .lss .no (xT 27) (xT 26)) (sS 28 (xL 0) sEnd)))
 (kSeq (kCond (xT 28) kSkip
 (kExit 6))
 (kSeq (kBlock 7 (kSeq (kReg (sV (oIaddr 1 (xT 29) (xT 27)) (sV (oLoad (xL 0)) (sS 30 (xL 0) sEnd))))
 (kDraw [(.v (oMov (xT 17)), none), (.v (oMov (xT 17)), none), (.v (oNilc (xL 0)), none), (.v (oFaddr 2 (xL 0)), none), (.v (oLoad (xL 0)), none), (.v (oMov (xT 30)), none), (.c (cFn 66) [(xL 0)], none), (.h (oBsl 142 6 1 [nils, nils, nils, nils, nils, nils] [(0, 6, (xL 0))]), none), (.h (oApp 142 6 (xL 3) (xL 0)), none), (.v (oNilc (xL 8)), none), (.v (oFaddr 2 (xL 0)), none), (.h (oStore 1 (xL 0) (xL 2)), none)] 0 [none, none, none, none, none, none, none, none, none, none, none, none, none, none, none, none, none, none, none, none, none, none, none, none, none, none, none, none, none, none, none] [(7, 5), (7, 4)])))
 (kReg (sV (oBin .add .no (xT 27) (ki 1)) (sS 27 (xL 0) sEnd)))))))))
 (kSeq (kDraw [(.v (oMov (xT 17)), none), (.v (oMov (xT 17)), none), (.v (oMov (xT 17)), none), (.v (oMov (xT 17)), none), (.v (oNilc (xL 0)), none), (.v (oFaddr 0 (xL 0)), none), (.v (oLoad (xL 0)), none), (.c (cFn 25) [(xL 0)], none), (.v (oMov (xT 17)), none), (.v (oNilc (xL 0)), none), (.v (oFaddr 1 (xL 0)), none), (.v (oLoad (xL 0)), none), (.c (cFn 67) [(xL 0)], none), (.v (oMov (xT 17)), none), (.v (oNilc (xL 0)), none), (.v (oFaddr 2 (xL 0)), none), (.v (oLoad (xL 0)), none), (.c (cFn 68) [(xL 0)], none), (.v (oNilc (xL 17)), none), (.v (oFaddr 0 (xL 0)), none), (.h (oStore 1 (xL 0) (xL 12)), none), (.v (oNilc (xL 19)), none), (.v (oFaddr 1 (xL 0)), none), (.h (oStore 1 (xL 0) (xL 10)), none), (.v (oNilc (xL 21)), none), (.v (oFaddr 2 (xL 0)), none), (.h (oStore 1 (xL 0) (xL 8)), none)] 0 [none, none, none, none, none, none, none, none, none, none, none, none, none, none, none, none, none, none, none, none, none, none, none, none, none, none, none, none, none, none, none] [(15, 19), (10, 19), (10, 14)])
 (kSeq (kReg (sS 2 (xT 17) (sS 3 (ki 0) sEnd)))
 kRet)))))))))
theorem t39 : FF d39 Tryz.f39 a39 [(.t 2), (.t 3)] := ff Tryz.func39 (by kernel_rfl)
def x39 : XFn := .go a39 2 pd29 [(.t 2), (.t 3)]
end
end Go.Proofs.YthaaihgllpehbaaGreatDoor
