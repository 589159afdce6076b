import Derived.Test.YtobnfiiladkllaaGreatDoorP
import Derived.Test.YtobnfiiladkllaaGreatDoorProg
import Derived.KernelRfl
/- The functions of the program as the interpreter has them; each is the program's, by the kernel. -/
set_option maxRecDepth 1000000
namespace Go.Proofs.YtobnfiiladkllaaGreatDoor
open Go Go.Ai AVal
noncomputable section
def d58 : FD := ⟨58, 1, [2]⟩
def a58 : CodeF := (kSeq (kReg (sS 1 (xK nils) sEnd))
 (kSeq (kReg (sV (oLenL (xT 0)) (sV (oLenL (xT 0)) (sV (oSlc 1 (xT 0) none (some (xL 1)) (some (xL 0))) (sS 1 (xL 0) sEnd)))))
 kRet))
theorem t58 : FF d58 Tryz.f58 a58 [(.t 1)] := ff Tryz.func58 (by kernel_rfl)
def x58 : XFn := .go a58 1 pd1 [(.t 1)]
def d59 : FD := ⟨59, 1, [2]⟩
def a59 : CodeF := (kSeq (kReg (sS 1 (xK nils) sEnd))
 (kSeq (kRegC (fun k => (sV (oBin .eql .slice (xT 0) (xK nils)) k)) (xL 0) (kSeq (kReg (sS 1 (xK nils) sEnd))
 kRet)
 kSkip)
 (kSeq (kReg (sH (oBsl 50 3 0 [(str []), (str []), nils] []) (sH (oApp 50 3 (xL 0) (xT 0)) (sS 1 (xL 0) sEnd))))
 kRet)))
theorem t59 : FF d59 Tryz.f59 a59 [(.t 1)] := ff Tryz.func59 (by kernel_rfl)
def x59 : XFn := .go a59 1 pd1 [(.t 1)]
def d60 : FD := ⟨60, 1, [2]⟩
def a60 : CodeF := (kSeq (kReg (sS 1 (xK nils) sEnd))
 (kSeq (kRegC (fun k => (sV (oBin .eql .slice (xT 0) (xK nils)) k)) (xL 0) (kSeq (kReg (sS 1 (xK nils) sEnd))
 kRet)
 kSkip)
 (kSeq (kReg (sH (oBsl 2 1 0 [(int .i64 (.ofNat 0))] []) (sH (oApp 2 1 (xL 0) (xT 0)) (sS 1 (xL 0) sEnd))))
 kRet)))
theorem t60 : FF d60 Tryz.f60 a60 [(.t 1)] := ff Tryz.func60 (by kernel_rfl)
def x60 : XFn := .go a60 1 pd1 [(.t 1)]
def d61 : FD := ⟨61, 2, [4, 7, 8, 9, 5]⟩
def a61 : CodeF := (kSeq (kReg (sS 2 (ki 0) sEnd))
 (kSeq (kSeq (kReg (sV (oLenL (xT 0)) (sS 3 (xL 0) (sS 4 (ki 0) sEnd))))
 (kBlock 0 (kLoop (kSeq (kReg (sV (oBin .lss .no (xT 4) (xT 3)) (sS 5 (xL 0) sEnd)))
 (kSeq (kCond (xT 5) kSkip
 (kExit 0))
 (kSeq (kBlock 1 (kSeq (kReg (sS 6 (xT 4) sEnd))
 (kRegC (fun k => (sV (oIaddr 1 (xT 0) (xT 6)) (sV (oLoad (xL 0)) (sV (oBin .eql .ptr (xT 1) (xL 0)) k)))) (xL 0) (kSeq (kReg (sS 2 (xT 6) sEnd))
 kRet)
 kSkip)))
 (kReg (sV (oBin .add .no (xT 4) (ki 1)) (sS 4 (xL 0) sEnd)))))))))
 (kSeq (kReg (sS 2 (xK (int .i64 (.negSucc 0))) sEnd))
 kRet)))
theorem t61 : FF d61 Tryz.f61 a61 [(.t 2)] := ff Tryz.func61 (by kernel_rfl)
def x61 : XFn := .go a61 2 pd5 [(.t 2)]
def d62 : FD := ⟨62, 2, [4, 12, 13, 14, 5, 24]⟩
def a62 : CodeF := (kSeq (kReg (sS 2 (xK (bool false)) sEnd))
 (kSeq (kRegC (fun k => (sV (oLenL (xT 0)) (sV (oLenL (xT 1)) (sV (oBin .neq .no (xL 1) (xL 0)) k)))) (xL 0) (kSeq (kReg (sS 2 (xK (bool false)) sEnd))
 kRet)
 kSkip)
 (kSeq (kSeq (kReg (sV (oLenL (xT 0)) (sS 3 (xL 0) (sS 4 (ki 0) sEnd))))
 (kBlock 0 (kLoop (kSeq (kReg (sV (oBin .lss .no (xT 4) (xT 3)) (sS 5 (xL 0) sEnd)))
 (kSeq (kCond (xT 5) kSkip
 (kExit 0))
 (kSeq (kBlock 1 (kSeq (kReg (sS 6 (xT 4) sEnd))
 (kSeq (kDraw [(.v (oMov (xT 0)), none), (.v (oMov (xT 6)), none), (.v (oIaddr 1 (xL 1) (xL 0)), none), (.v (oLoad (xL 0)), none), (.v (oMov (xT 1)), none), (.v (oMov (xT 6)), none), (.v (oIaddr 1 (xL 1) (xL 0)), none), (.v (oLoad (xL 0)), none), (.v (oBin .neq .ptr (xL 4) (xL 0)), none)] 0 [none, none, none, none, none, none, none, (some 0)] [])
 (kCond (xT 7) (kSeq (kReg (sS 2 (xK (bool false)) sEnd))
 kRet)
 kSkip))))
 (kReg (sV (oBin .add .no (xT 4) (ki 1)) (sS 4 (xL 0) sEnd)))))))))
 (kSeq (kReg (sS 2 (xK (bool true)) sEnd))
 kRet))))
theorem t62 : FF d62 Tryz.f62 a62 [(.t 2)] := ff Tryz.func62 (by kernel_rfl)
def x62 : XFn := .go a62 2 pd6 [(.t 2)]
def d63 : FD := ⟨63, 1, [2]⟩
def a63 : CodeF := (kSeq (kReg (sS 1 (xK nils) sEnd))
 (kSeq (kReg (sV (oLenL (xT 0)) (sV (oLenL (xT 0)) (sV (oSlc 1 (xT 0) none (some (xL 1)) (some (xL 0))) (sS 1 (xL 0) sEnd)))))
 kRet))
theorem t63 : FF d63 Tryz.f63 a63 [(.t 1)] := ff Tryz.func63 (by kernel_rfl)
def x63 : XFn := .go a63 1 pd1 [(.t 1)]
def d64 : FD := ⟨64, 1, [2]⟩
def a64 : CodeF := (kSeq (kReg (sS 1 (xK nils) sEnd))
 (kSeq (kRegC (fun k => (sV (oBin .eql .slice (xT 0) (xK nils)) k)) (xL 0) (kSeq (kReg (sS 1 (xK nils) sEnd))
 kRet)
 kSkip)
 (kSeq (kReg (sH (oBsl 26 1 0 [(int .u64 (.ofNat 0))] []) (sH (oApp 26 1 (xL 0) (xT 0)) (sS 1 (xL 0) sEnd))))
 kRet)))
theorem t64 : FF d64 Tryz.f64 a64 [(.t 1)] := ff Tryz.func64 (by kernel_rfl)
def x64 : XFn := .go a64 1 pd1 [(.t 1)]
def d65 : FD := ⟨65, 2, [4]⟩
def a65 : CodeF := (kSeq (kReg (sS 2 (xK nils) sEnd))
 (kSeq (kRegC (fun k => (sV (oBin .lss .no (xT 1) (ki 0)) k)) (xL 0) (kReg (sV (oMkif 9 (xK (str [99, 97, 110, 110, 111, 116, 32, 98, 101, 32, 110, 101, 103, 97, 116, 105, 118, 101]))) (sPan (xL 0))))
 kSkip)
 (kSeq (kSeq (kReg (sV (oMov (xT 1)) (sV (oCap (xT 0)) (sV (oLenL (xT 0)) (sV (oBin .sub .no (xL 1) (xL 0)) (sV (oBin .sub .no (xL 3) (xL 0)) (sS 1 (xL 0) sEnd)))))))
 (kRegC (fun k => (sV (oBin .gtr .no (xT 1) (ki 0)) k)) (xL 0) (kReg (sV (oMov (xT 0)) (sV (oMov (xT 0)) (sV (oCap (xL 0)) (sV (oSlc 1 (xL 2) none (some (xL 0)) none) (sH (oAppm 75 1 [nilptr] (xL 0) (xT 1)) (sV (oMov (xT 0)) (sV (oLenL (xL 0)) (sV (oSlc 1 (xL 2) none (some (xL 0)) none) (sS 0 (xL 0) sEnd))))))))))
 kSkip))
 (kSeq (kReg (sS 2 (xT 0) sEnd))
 kRet))))
theorem t65 : FF d65 Tryz.f65 a65 [(.t 2)] := ff Tryz.func65 (by kernel_rfl)
def x65 : XFn := .go a65 2 pd1 [(.t 2)]
def d66 : FD := ⟨66, 2, [4, 3, 16, 5, 34, 35, 36, 7, 8]⟩
def a66 : CodeF := (kSeq (kReg (sH (oBox 3 1 (xT 1)) (sS 3 (xL 0) (sH (oAlloc 38 1 [nils]) (sS 2 (xL 0) sEnd)))))
 (kSeq (kSeq (kDraw [(.v (oLoad (xT 3)), none), (.v (oBin .lss .no (xL 0) (ki 0)), none), (.v (oMov (xL 0)), none), (.v (oLoad (xT 3)), (some ((xL 0), false))), (.v (oMov (xT 0)), (some ((xL 1), false))), (.c (cFn 100) [(xL 0)], (some ((xL 2), false))), (.v (oBin .geq .no (xL 2) (xL 0)), (some ((xL 3), false))), (.v (oPick (xL 4) (xK (bool true)) (xL 0)), none)] 0 [none, none, none, none, (some 0), none, none, none, none, none, none] [(4, 2)])
 (kCond (xT 4) (kSeq (kReg (sH (oStore 1 (xT 2) (xK nils)) sEnd))
 kRet)
 kSkip))
 (kSeq (kDraw [(.v (oMov (xT 0)), none), (.v (oNilc (xL 0)), none), (.v (oFaddr 0 (xL 0)), none), (.v (oLoad (xL 0)), none), (.v (oLoad (xT 3)), none), (.v (oBin .add .no (xL 0) (ki 1)), none), (.c (cFn 101) [(xL 2), (xL 0), (xK (.func (.func 102) [] []))], none), (.v (oMov (xL 0)), none), (.v (oExt 0 (xL 0)), none), (.v (oExt 1 (xL 1)), none), (.v (oMov (xL 1)), none), (.v (oMov (xL 1)), none)] 0 [none, none, none, none, none, (some 1), none, none, none, none, none] [])
 (kSeq (kSeq (kReg (sV (oNilc (xT 0)) (sV (oFaddr 0 (xL 0)) (sV (oLoad (xL 0)) (sV (oIaddr 3 (xL 0) (xT 5)) (sV (oLoadN 3 (xL 0)) (sC (cFn 103) [(xL 0)] (sS 6 (xL 0) sEnd))))))))
 (kBlock 0 (kRf 67113146 [7, 8] (xT 6))))
 (kSeq (kReg (sH (oStore 1 (xT 2) (xK nils)) sEnd))
 kRet)))))
theorem t66 : FF d66 Tryz.f66 a66 [(.cell 2 none)] := ff Tryz.func66 (by kernel_rfl)
def x66 : XFn := .go a66 2 pd9 [(.cell 2 none)]
def r66x0 : CodeF × CodeF := ((kSeq (kReg (sS 9 (xT 7) sEnd))
 (kReg (sS 10 (xT 8) sEnd))),
 (kBlock 1 (kRegC (fun k => (sV (oLoad (xT 3)) (sV (oBin .eql .no (xT 9) (xL 0)) k))) (xL 0) (kSeq (kReg (sH (oStore 1 (xT 2) (xT 10)) sEnd))
 kRet)
 kSkip)))
theorem u66x0 : RfFact Tryz.prog d66 Tryz.f66 67113146 r66x0 := ⟨Tryz.func66, by kernel_rfl⟩
def d67 : FD := ⟨67, 2, [7, 12, 5, 6]⟩
def a67 : CodeF := (kSeq (kReg (sRec (sS 2 (xL 0) sEnd)))
 (kBlock 0 (kRegC (fun k => (sV (oBin .eql (.iface true) (xT 2) (xK nilif)) k)) (xL 0) (kReg sEnd)
 (kRegC (fun k => (sV (oTass 201 (agg [(int .i64 (.ofNat 0))]) (xT 2)) (sV (oExt 1 (xL 0)) (sV (oExt 0 (xL 1)) (sS 3 (xL 0) k))))) (xL 1) (kSeq (kReg (sH (oAlloc 201 1 [(int .i64 (.ofNat 0))]) (sS 4 (xL 0) (sH (oStore 1 (xT 4) (xT 3)) sEnd))))
 (kDraw [(.v (oMov (xT 0)), none), (.v (oMov (xT 1)), none), (.v (oFaddr 0 (xT 4)), none), (.v (oLoad (xL 0)), none), (.v (oNilc (xL 3)), none), (.h (oStore 1 (xL 0) (xK nilptr)), none), (.v (oNilc (xL 4)), none), (.h (oStore 1 (xL 0) (xL 3)), none)] 0 [none, none, none, none, none, none] [(4, 2)]))
 (kSeq (kReg (sS 5 (xT 2) sEnd))
 (kReg (sPan (xT 5))))))))
theorem t67 : FF d67 Tryz.f67 a67 [] := ff Tryz.func67 (by kernel_rfl)
def x67 : XFn := .go a67 2 pd4 []
def d68 : FD := ⟨68, 2, [4]⟩
def a68 : CodeF := (kSeq (kReg (sS 2 (xK nilptr) sEnd))
 (kSeq (kRegC (fun k => (sV (oBin .neq .no (xT 1) (ki 0)) k)) (xL 0) (kReg (sV (oBuild [(int .i64 (.ofNat 0))] [(0, 1, (xT 1))]) (sV (oMkif 201 (xL 0)) (sPan (xL 0)))))
 kSkip)
 (kSeq (kReg (sS 2 (xT 0) sEnd))
 kRet)))
theorem t68 : FF d68 Tryz.f68 a68 [(.t 2)] := ff Tryz.func68 (by kernel_rfl)
def x68 : XFn := .go a68 2 pd1 [(.t 2)]
def d69 : FD := ⟨69, 2, [4, 5, 2, 6, 8, 31, 32, 33, 9, 45, 46, 47, 44, 11, 13, 7, 85, 86, 87, 84, 14, 12, 10, 15, 102, 103, 104, 101, 17]⟩
def a69 : CodeF := (kSeq (kReg (sH (oBox 55 1 (xT 0)) (sS 4 (xL 0) (sS 2 (xK nilptr) (sS 3 (ki 0) sEnd)))))
 (kSeq (kSeq (kReg (sV (oLoadN 1 (xT 4)) (sC (cFn 104) [(xL 0), (xT 1)] (sS 5 (xL 0) sEnd))))
 (kRegC (fun k => (sV (oBin .neq .no (xT 5) (ki 0)) k)) (xL 0) (kSeq (kReg (sS 2 (xK nilptr) (sS 3 (xT 5) sEnd)))
 kRet)
 kSkip))
 (kSeq (kReg (sV (oBuild [nils, nils, nils] []) (sH (oBox 206 3 (xL 0)) (sS 17 (xL 0) sEnd))))
 (kSeq (kReg (sV (oFaddr 0 (xT 4)) (sV (oLoad (xL 0)) (sV (oLenL (xL 0)) (sH (oMksl 208 1 [nilptr] (xL 0) (xL 0)) (sS 6 (xL 0) sEnd))))))
 (kSeq (kSeq (kReg (sV (oLenL (xT 6)) (sS 7 (xL 0) (sS 8 (ki 0) sEnd))))
 (kBlock 0 (kLoop (kSeq (kReg (sV (oBin .lss .no (xT 8) (xT 7)) (sS 9 (xL 0) sEnd)))
 (kSeq (kCond (xT 9) kSkip
 (kExit 0))
 (kSeq (kBlock 1 (kSeq (kReg (sS 10 (xT 8) sEnd))
 (kReg (sV (oLoadN 1 (xT 4)) (sH oMkmap (sV (oBuild [nils, nils, nils, nils, nils, nils, nils, (int .i64 (.ofNat 0)), nilmap] [(6, 1, (xL 1)), (7, 1, (xT 10)), (8, 1, (xL 0))]) (sH (oBox 218 9 (xL 0)) (sV (oIaddr 1 (xT 6) (xT 10)) (sH (oStore 1 (xL 0) (xL 1)) sEnd)))))))))
 (kReg (sV (oBin .add .no (xT 8) (ki 1)) (sS 8 (xL 0) sEnd)))))))))
 (kSeq (kSeq (kReg (sS 14 (xT 1) (sV (oLenL (xT 14)) (sS 11 (xL 0) (sS 12 (ki 0) sEnd)))))
 (kBlock 2 (kLoop (kSeq (kReg (sV (oBin .lss .no (xT 12) (xT 11)) (sS 13 (xL 0) sEnd)))
 (kSeq (kCond (xT 13) kSkip
 (kExit 2))
 (kSeq (kBlock 3 (kSeq (kReg (sV (oIaddr 2 (xT 14) (xT 12)) (sV (oLoadN 2 (xL 0)) (sH (oAlloc 104 2 [(int .u64 (.ofNat 0)), nils]) (sS 15 (xL 0) (sS 24 (xT 12) (sH (oStore 2 (xT 15) (xL 1)) sEnd)))))))
 (kSeq (kReg (sV (oLoadN 1 (xT 4)) (sV (oFaddr 1 (xT 15)) (sV (oLoadN 1 (xL 0)) (sC (cFn 49) [(xL 2), (xL 0)] (sV (oExt 0 (xL 0)) (sV (oExt 1 (xL 1)) (sS 23 (xL 1) (sS 16 (xL 0) sEnd)))))))))
 (kSeq (kRegC (fun k => (sV (oBin .neq .no (xT 16) (ki 0)) k)) (xL 0) (kSeq (kReg (sS 2 (xK nilptr) (sS 3 (xT 16) sEnd)))
 kRet)
 kSkip)
 (kSeq (kDraw [(.v (oMov (xT 17)), none), (.v (oMov (xT 17)), none), (.v (oNilc (xL 0)), none), (.v (oFaddr 0 (xL 0)), none), (.v (oLoad (xL 0)), none), (.v (oFaddr 0 (xT 15)), none), (.v (oLoad (xL 0)), none), (.h (oBsl 26 1 1 [(int .u64 (.ofNat 0))] [(0, 1, (xL 0))]), none), (.h (oApp 26 1 (xL 3) (xL 0)), none), (.v (oNilc (xL 8)), none), (.v (oFaddr 0 (xL 0)), none), (.h (oStore 1 (xL 0) (xL 2)), none)] 0 [none, none, none, none, none, none, none, none, none, none, none, none, none, none, none, none, none, none, none, none, none, none, none, none, none, none, none, none, none, none, none] [(7, 4)])
 (kSeq (kDraw [(.v (oMov (xT 17)), none), (.v (oMov (xT 17)), none), (.v (oNilc (xL 0)), none), (.v (oFaddr 1 (xL 0)), none), (.v (oLoad (xL 0)), none), (.v (oFaddr 1 (xT 15)), none), (.v (oLoadN 1 (xL 0)), none), (.c (cFn 105) [(xL 0)], none), (.h (oBsl 40 1 1 [nils] [(0, 1, (xL 0))]), none), (.h (oApp 40 1 (xL 4) (xL 0)), none), (.v (oNilc (xL 9)), none), (.v (oFaddr 1 (xL 0)), none), (.h (oStore 1 (xL 0) (xL 2)), none)] 0 [none, none, none, none, none, none, none, none, none, none, none, none, none, none, none, none, none, none, none, none, none, none, none, none, none, none, none, none, none, none, none] [(8, 5), (8, 4)])
 (kSeq (kReg (sS 21 (xT 6) (sV (oLenL (xT 21)) (sS 18 (xL 0) (sS 19 (ki 0) sEnd)))))
 (kBlock 4 (kLoop (kSeq (kReg (sV (oBin .lss .no (xT 19) (xT 18)) (sS 20 (xL 0) sEnd)))
 (kSeq (kCond (xT 20) kSkip
 (kExit 4))
 (kSeq (kBlock 5 (kSeq (kReg (sV (oIaddr 1 (xT 21) (xT 19)) (sV (oLoad (xL 0)) (sH (oAlloc 3 1 [(int .i64 (.ofNat 0))]) (sS 22 (xL 0) (sH (oStore 1 (xT 22) (xT 19)) (sS 25 (xL 2) sEnd)))))))
 (kReg (sC (cFn 106) [(xT 25)] (sC (cFn 108) [(xT 23)] (sV (oMkfn 109 [] [(xT 22)]) (sC (cFn 107) [(xL 1), (xL 0)] (sC (cVal (xL 3)) [(xT 24), (xL 0)] sEnd))))))))
 (kReg (sV (oBin .add .no (xT 19) (ki 1)) (sS 19 (xL 0) sEnd)))))))))))))))
 (kReg (sV (oBin .add .no (xT 12) (ki 1)) (sS 12 (xL 0) sEnd)))))))))
 (kSeq (kSeq (kReg (sS 29 (xT 6) (sV (oLenL (xT 29)) (sS 26 (xL 0) (sS 27 (ki 0) sEnd)))))
 (kBlock 6 (kLoop (kSeq (kReg (sV (oBin .lss .no (xT 27) (xT 26)) (sS 28 (xL 0) sEnd)))
 (kSeq (kCond (xT 28) kSkip
 (kExit 6))
 (kSeq (kBlock 7 (kSeq (kReg (sV (oIaddr 1 (xT 29) (xT 27)) (sV (oLoad (xL 0)) (sS 30 (xL 0) sEnd))))
 (kDraw [(.v (oMov (xT 17)), none), (.v (oMov (xT 17)), none), (.v (oNilc (xL 0)), none), (.v (oFaddr 2 (xL 0)), none), (.v (oLoad (xL 0)), none), (.v (oMov (xT 30)), none), (.c (cFn 110) [(xL 0)], none), (.h (oBsl 216 6 1 [nils, nils, nils, nils, nils, nils] [(0, 6, (xL 0))]), none), (.h (oApp 216 6 (xL 3) (xL 0)), none), (.v (oNilc (xL 8)), none), (.v (oFaddr 2 (xL 0)), none), (.h (oStore 1 (xL 0) (xL 2)), none)] 0 [none, none, none, none, none, none, none, none, none, none, none, none, none, none, none, none, none, none, none, none, none, none, none, none, none, none, none, none, none, none, none] [(7, 5), (7, 4)])))
 (kReg (sV (oBin .add .no (xT 27) (ki 1)) (sS 27 (xL 0) sEnd)))))))))
 (kSeq (kDraw [(.v (oMov (xT 17)), none), (.v (oMov (xT 17)), none), (.v (oMov (xT 17)), none), (.v (oMov (xT 17)), none), (.v (oNilc (xL 0)), none), (.v (oFaddr 0 (xL 0)), none), (.v (oLoad (xL 0)), none), (.c (cFn 63) [(xL 0)], none), (.v (oMov (xT 17)), none), (.v (oNilc (xL 0)), none), (.v (oFaddr 1 (xL 0)), none), (.v (oLoad (xL 0)), none), (.c (cFn 111) [(xL 0)], none), (.v (oMov (xT 17)), none), (.v (oNilc (xL 0)), none), (.v (oFaddr 2 (xL 0)), none), (.v (oLoad (xL 0)), none), (.c (cFn 112) [(xL 0)], none), (.v (oNilc (xL 17)), none), (.v (oFaddr 0 (xL 0)), none), (.h (oStore 1 (xL 0) (xL 12)), none), (.v (oNilc (xL 19)), none), (.v (oFaddr 1 (xL 0)), none), (.h (oStore 1 (xL 0) (xL 10)), none), (.v (oNilc (xL 21)), none), (.v (oFaddr 2 (xL 0)), none), (.h (oStore 1 (xL 0) (xL 8)), none)] 0 [none, none, none, none, none, none, none, none, none, none, none, none, none, none, none, none, none, none, none, none, none, none, none, none, none, none, none, none, none, none, none] [(15, 19), (10, 19), (10, 14)])
 (kSeq (kReg (sS 2 (xT 17) (sS 3 (ki 0) sEnd)))
 kRet)))))))))
theorem t69 : FF d69 Tryz.f69 a69 [(.t 2), (.t 3)] := ff Tryz.func69 (by kernel_rfl)
def x69 : XFn := .go a69 2 pd29 [(.t 2), (.t 3)]
def d70 : FD := ⟨70, 2, [4, 5, 6, 7, 10, 8, 2, 56, 57, 58, 55, 13, 11, 84, 85, 86, 83, 15]⟩
def a70 : CodeF := (kSeq (kReg (sH (oBox 55 1 (xT 0)) (sS 8 (xL 0) (sS 2 (xK nilptr) sEnd))))
 (kSeq (kReg (sC (cFn 115) [(xK (int .u8 (.ofNat 1))), (xT 1)] (sV (oExt 0 (xL 0)) (sV (oExt 1 (xL 1)) (sC (cFn 114) [(xL 1), (xL 0)] (sC (cFn 113) [(xL 0)] (sS 3 (xL 0) sEnd)))))))
 (kSeq (kReg (sC (cVal (xT 3)) [] (sC (cFn 116) [(xL 0)] (sS 4 (xL 0) sEnd))))
 (kSeq (kReg (sC (cFn 117) [(xT 4), (ki 16384)] (sS 5 (xL 0) sEnd)))
 (kSeq (kReg (sC (cFn 120) [(xT 4)] (sC (cFn 119) [(xT 4), (xL 0)] (sC (cFn 118) [(xL 0), (xT 5)] (sV (oExt 0 (xL 0)) (sV (oExt 1 (xL 1)) (sV (oExt 2 (xL 2)) (sS 7 (xL 2) (sS 6 (xL 0) sEnd)))))))))
 (kSeq (kReg (sC (cFn 122) [(xT 4)] (sV (oMm true (xT 6) [(xL 0)]) (sC (cFn 121) [(xT 7), (xL 0)] sEnd))))
 (kSeq (kReg (sV (oLoadN 1 (xT 8)) (sC (cFn 72) [(xL 0)] (sC (cFn 123) [(xT 1)] (sC (cVal (xT 3)) [] (sC (cFn 125) [(xL 0)] (sV (oExt 0 (xL 0)) (sV (oExt 1 (xL 1)) (sC (cFn 124) [(xL 1), (xL 0)] (sV (oBuild [nils, nils, nils, nilptr, nils] [(0, 1, (xL 6)), (1, 1, (xL 5)), (3, 1, (xL 0))]) (sH (oBox 141 5 (xL 0)) (sS 14 (xL 0) sEnd))))))))))))
 (kSeq (kSeq (kReg (sS 12 (xT 7) (sV (oLenL (xT 12)) (sS 9 (xL 0) (sS 10 (ki 0) sEnd)))))
 (kBlock 0 (kLoop (kSeq (kReg (sV (oBin .lss .no (xT 10) (xT 9)) (sS 11 (xL 0) sEnd)))
 (kSeq (kCond (xT 11) kSkip
 (kExit 0))
 (kSeq (kBlock 1 (kSeq (kReg (sV (oIaddr 1 (xT 12) (xT 10)) (sV (oLoad (xL 0)) (sS 13 (xL 0) sEnd))))
 (kReg (sV (oNilc (xT 14)) (sV (oFaddr 2 (xL 0)) (sV (oLoad (xL 0)) (sV (oConv .u64 (xT 13)) (sH (oBsl 26 1 1 [(int .u64 (.ofNat 0))] [(0, 1, (xL 0))]) (sH (oApp 26 1 (xL 2) (xL 0)) (sV (oNilc (xT 14)) (sV (oFaddr 2 (xL 0)) (sH (oStore 1 (xL 0) (xL 2)) sEnd))))))))))))
 (kReg (sV (oBin .add .no (xT 10) (ki 1)) (sS 10 (xL 0) sEnd)))))))))
 (kSeq (kRegC (fun k => (sV (oNilc (xT 14)) (sV (oFaddr 3 (xL 0)) (sV (oLoad (xL 0)) (sC (cFn 100) [(xL 0)] (sV (oBin .neq .no (xL 0) (xT 5)) k)))))) (xL 0) (kReg (sV (oBuild [(int .i64 (.ofNat 0))] [(0, 1, (ki 20))]) (sV (oMkif 201 (xL 0)) (sPan (xL 0)))))
 kSkip)
 (kSeq (kSeq (kReg (sV (oFaddr 0 (xT 8)) (sV (oLoad (xL 0)) (sS 18 (xL 0) (sV (oLenL (xT 18)) (sS 15 (xL 0) (sS 16 (ki 0) sEnd)))))))
 (kBlock 2 (kLoop (kSeq (kReg (sV (oBin .lss .no (xT 16) (xT 15)) (sS 17 (xL 0) sEnd)))
 (kSeq (kCond (xT 17) kSkip
 (kExit 2))
 (kSeq (kBlock 3 (kSeq (kReg (sV (oIaddr 7 (xT 18) (xT 16)) (sV (oLoadN 7 (xL 0)) (sH (oAlloc 110 7 [(str []), (int .i64 (.ofNat 0)), nils, (int .i64 (.ofNat 0)), (int .i64 (.ofNat 0)), (bool false), (bool false)]) (sS 19 (xL 0) (sH (oStore 7 (xT 19) (xL 1)) sEnd))))))
 (kDraw [(.v (oMov (xT 14)), none), (.v (oMov (xT 14)), none), (.v (oNilc (xL 0)), none), (.v (oFaddr 4 (xL 0)), none), (.v (oLoad (xL 0)), none), (.v (oLoadN 7 (xT 19)), none), (.v (oMov (xT 5)), none), (.v (oMov (xT 3)), none), (.c (cFn 126) [(xL 2), (xL 1), (xL 0)], none), (.h (oBsl 178 6 1 [nilptr, nils, nils, nilptr, nilptr, nilptr] [(0, 6, (xL 0))]), none), (.h (oApp 178 6 (xL 5) (xL 0)), none), (.v (oNilc (xL 10)), none), (.v (oFaddr 4 (xL 0)), none), (.h (oStore 1 (xL 0) (xL 2)), none)] 0 [none, none, none, none, none, none, none, none, none, none, none, none, none, none, none, none, none, none, none, none] [(9, 5), (9, 4)])))
 (kReg (sV (oBin .add .no (xT 16) (ki 1)) (sS 16 (xL 0) sEnd)))))))))
 (kSeq (kReg (sS 2 (xT 14) sEnd))
 kRet)))))))))))
theorem t70 : FF d70 Tryz.f70 a70 [(.t 2)] := ff Tryz.func70 (by kernel_rfl)
def x70 : XFn := .go a70 2 pd18 [(.t 2)]
def d71 : FD := ⟨71, 2, [4, 16, 17, 18, 15, 8, 5, 7, 6, 53, 54, 55, 52, 11, 10, 2, 9]⟩
def a71 : CodeF := (kSeq (kReg (sH (oBox 55 1 (xT 0)) (sS 17 (xL 0) (sS 2 (xK nils) sEnd))))
 (kSeq (kReg (sS 8 (xK nils) sEnd))
 (kSeq (kReg (sS 10 (xK nils) sEnd))
 (kSeq (kSeq (kReg (sV (oNilc (xT 1)) (sV (oFaddr 0 (xL 0)) (sV (oLoad (xL 0)) (sS 6 (xL 0) (sV (oLenL (xT 6)) (sS 3 (xL 0) (sS 4 (ki 0) sEnd))))))))
 (kBlock 0 (kLoop (kSeq (kReg (sV (oBin .lss .no (xT 4) (xT 3)) (sS 5 (xL 0) sEnd)))
 (kSeq (kCond (xT 5) kSkip
 (kExit 0))
 (kSeq (kBlock 1 (kSeq (kReg (sV (oIaddr 1 (xT 6) (xT 4)) (sV (oLoad (xL 0)) (sS 9 (xT 4) (sS 7 (xL 0) sEnd)))))
 (kSeq (kReg (sV (oMov (xT 8)) (sV (oConv .i64 (xT 7)) (sH (oBsl 2 1 1 [(int .i64 (.ofNat 0))] [(0, 1, (xL 0))]) (sH (oApp 2 1 (xL 2) (xL 0)) (sS 8 (xL 0) sEnd))))))
 (kReg (sV (oMov (xT 10)) (sV (oNilc (xT 1)) (sV (oFaddr 1 (xL 0)) (sV (oLoad (xL 0)) (sV (oIaddr 1 (xL 0) (xT 9)) (sV (oFaddr 0 (xL 0)) (sV (oLoad (xL 0)) (sH (oBsl 38 1 1 [nils] [(0, 1, (xL 0))]) (sH (oApp 38 1 (xL 7) (xL 0)) (sS 10 (xL 0) sEnd))))))))))))))
 (kReg (sV (oBin .add .no (xT 4) (ki 1)) (sS 4 (xL 0) sEnd)))))))))
 (kSeq (kReg (sV (oLenL (xT 8)) (sV (oConv .u64 (xL 0)) (sC (cFn 127) [(xK nils), (xL 0)] (sC (cFn 128) [(xT 8)] (sH (oApp 5 1 (xL 1) (xL 0)) (sC (cFn 129) [(xT 10)] (sH (oBsl 137 1 2 [nils] [(0, 1, (xL 1)), (1, 1, (xL 0))]) (sS 18 (xL 0) sEnd)))))))))
 (kSeq (kSeq (kReg (sV (oNilc (xT 1)) (sV (oFaddr 2 (xL 0)) (sV (oLoad (xL 0)) (sS 14 (xL 0) (sV (oLenL (xT 14)) (sS 11 (xL 0) (sS 12 (ki 0) sEnd))))))))
 (kBlock 2 (kLoop (kSeq (kReg (sV (oBin .lss .no (xT 12) (xT 11)) (sS 13 (xL 0) sEnd)))
 (kSeq (kCond (xT 13) kSkip
 (kExit 2))
 (kSeq (kBlock 3 (kSeq (kReg (sV (oIaddr 6 (xT 14) (xT 12)) (sV (oLoadN 6 (xL 0)) (sH (oAlloc 216 6 [nils, nils, nils, nils, nils, nils]) (sS 15 (xL 0) (sS 16 (xT 12) (sH (oStore 6 (xT 15) (xL 1)) sEnd)))))))
 (kDraw [(.v (oMov (xT 18)), none), (.v (oFaddr 0 (xT 17)), none), (.v (oLoad (xL 0)), none), (.v (oMov (xT 16)), none), (.v (oIaddr 7 (xL 1) (xL 0)), none), (.v (oLoadN 7 (xL 0)), none), (.v (oLoadN 6 (xT 15)), none), (.c (cFn 130) [(xL 1), (xL 0)], none), (.h (oApp 137 1 (xL 7) (xL 0)), none), (.v (oMov (xL 0)), none)] 0 [none, none, none, none, none, none, none, none, none, none, none, none, none, none, none, none, none, none, (some 0)] [])))
 (kReg (sV (oBin .add .no (xT 12) (ki 1)) (sS 12 (xL 0) sEnd)))))))))
 (kSeq (kReg (sC (cFn 132) [(xK (int .u8 (.ofNat 1))), (xT 18)] (sV (oExt 0 (xL 0)) (sV (oExt 1 (xL 1)) (sC (cFn 131) [(xL 1), (xL 0)] (sS 2 (xL 0) sEnd))))))
 kRet)))))))
theorem t71 : FF d71 Tryz.f71 a71 [(.t 2)] := ff Tryz.func71 (by kernel_rfl)
def x71 : XFn := .go a71 2 pd17 [(.t 2)]
def d72 : FD := ⟨72, 1, [2, 1, 3, 10, 11, 12, 4]⟩
def a72 : CodeF := (kSeq (kReg (sH (oBox 55 1 (xT 0)) (sS 2 (xL 0) (sH (oAlloc 55 1 [nils]) (sS 1 (xL 0) sEnd)))))
 (kSeq (kReg (sV (oFaddr 0 (xT 2)) (sV (oLoad (xL 0)) (sC (cFn 134) [(xL 0)] (sC (cFn 133) [(xL 0)] (sS 3 (xL 0) sEnd))))))
 (kSeq (kSeq (kReg (sV (oLenL (xT 3)) (sS 4 (xL 0) (sS 5 (ki 0) sEnd))))
 (kBlock 0 (kLoop (kSeq (kReg (sV (oBin .lss .no (xT 5) (xT 4)) (sS 6 (xL 0) sEnd)))
 (kSeq (kCond (xT 6) kSkip
 (kExit 0))
 (kSeq (kBlock 1 (kSeq (kReg (sS 7 (xT 5) sEnd))
 (kReg (sV (oIaddr 7 (xT 3) (xT 7)) (sV (oFaddr 2 (xL 0)) (sV (oLoad (xL 0)) (sC (cFn 135) [(xL 0)] (sC (cFn 28) [(xL 0)] (sV (oIaddr 7 (xT 3) (xT 7)) (sV (oFaddr 2 (xL 0)) (sH (oStore 1 (xL 0) (xL 2)) sEnd)))))))))))
 (kReg (sV (oBin .add .no (xT 5) (ki 1)) (sS 5 (xL 0) sEnd)))))))))
 (kSeq (kReg (sV (oBuild [nils] [(0, 1, (xT 3))]) (sH (oStore 1 (xT 1) (xL 0)) sEnd)))
 kRet))))
theorem t72 : FF d72 Tryz.f72 a72 [(.cell 1 (some 1))] := ff Tryz.func72 (by kernel_rfl)
def x72 : XFn := .go a72 1 pd7 [(.cell 1 (some 1))]
def d74 : FD := ⟨74, 1, [2]⟩
def a74 : CodeF := (kSeq (kReg (sS 1 (ki 0) sEnd))
 (kSeq (kRegC (fun k => (sV (oBin .eql .ptr (xT 0) (xK nilptr)) k)) (xL 0) (kSeq (kReg (sS 1 (ki 0) sEnd))
 kRet)
 kSkip)
 (kSeq (kReg (sV (oNilc (xT 0)) (sV (oFaddr 1 (xL 0)) (sV (oLoad (xL 0)) (sS 1 (xL 0) sEnd)))))
 kRet)))
theorem t74 : FF d74 Tryz.f74 a74 [(.t 1)] := ff Tryz.func74 (by kernel_rfl)
def x74 : XFn := .go a74 1 pd1 [(.t 1)]
def d75 : FD := ⟨75, 1, [2]⟩
def a75 : CodeF := (kSeq (kReg (sV (oLenL (xT 0)) (sS 1 (xL 0) sEnd)))
 (kReg (sV (oConv .u64 (xT 1)) (sC (cFn 140) [(xL 0)] (sC (cFn 139) [(xT 0), (ki 0), (xT 1), (xL 0)] sEnd)))))
theorem t75 : FF d75 Tryz.f75 a75 [] := ff Tryz.func75 (by kernel_rfl)
def x75 : XFn := .go a75 1 pd1 []
def d76 : FD := ⟨76, 1, [2, 3, 25, 4, 5, 44]⟩
def a76 : CodeF := (kSeq (kReg (sS 1 (xK nils) sEnd))
 (kSeq (kRegC (fun k => (sV (oLenL (xT 0)) (sV (oBin .lss .no (xL 0) (ki 2)) k))) (xL 0) (kSeq (kReg (sS 1 (xT 0) sEnd))
 kRet)
 kSkip)
 (kSeq (kSeq (kReg (sS 2 (ki 1) sEnd))
 (kBlock 0 (kLoop (kSeq (kRegC (fun k => (sV (oLenL (xT 0)) (sV (oBin .lss .no (xT 2) (xL 0)) k))) (xL 0) kSkip
 (kExit 0))
 (kSeq (kBlock 1 (kSeq (kDraw [(.v (oMov (xT 0)), none), (.v (oMov (xT 2)), none), (.v (oIaddr 1 (xL 1) (xL 0)), none), (.v (oLoad (xL 0)), none), (.v (oMov (xT 0)), none), (.v (oMov (xT 2)), none), (.v (oBin .sub .no (xL 0) (ki 1)), none), (.v (oIaddr 1 (xL 2) (xL 0)), none), (.v (oLoad (xL 0)), none), (.v (oBin .eql .no (xL 5) (xL 0)), none)] 0 [none, none, none, (some 0), none, none, none] [])
 (kCond (xT 3) (kSeq (kReg (sV (oSlc 1 (xT 0) (some (xT 2)) none none) (sS 4 (xL 0) sEnd)))
 (kSeq (kSeq (kReg (sS 5 (ki 1) sEnd))
 (kBlock 2 (kLoop (kSeq (kRegC (fun k => (sV (oLenL (xT 4)) (sV (oBin .lss .no (xT 5) (xL 0)) k))) (xL 0) kSkip
 (kExit 2))
 (kSeq (kBlock 3 (kSeq (kDraw [(.v (oMov (xT 4)), none), (.v (oMov (xT 5)), none), (.v (oIaddr 1 (xL 1) (xL 0)), none), (.v (oLoad (xL 0)), none), (.v (oMov (xT 4)), none), (.v (oMov (xT 5)), none), (.v (oBin .sub .no (xL 0) (ki 1)), none), (.v (oIaddr 1 (xL 2) (xL 0)), none), (.v (oLoad (xL 0)), none), (.v (oBin .neq .no (xL 5) (xL 0)), none)] 0 [none, none, none, none, none, none, (some 0)] [])
 (kCond (xT 6) (kSeq (kReg (sV (oIaddr 1 (xT 4) (xT 5)) (sV (oLoad (xL 0)) (sV (oIaddr 1 (xT 0) (xT 2)) (sH (oStore 1 (xL 0) (xL 1)) sEnd)))))
 (kReg (sV (oMov (xT 2)) (sV (oBin .add .no (xL 0) (ki 1)) (sS 2 (xL 0) sEnd)))))
 kSkip)))
 (kReg (sV (oMov (xT 5)) (sV (oBin .add .no (xL 0) (ki 1)) (sS 5 (xL 0) sEnd)))))))))
 (kSeq (kReg (sV (oSlc 1 (xT 0) (some (xT 2)) none none) (sH (oClr [(int .u64 (.ofNat 0))] (xL 0)) sEnd)))
 (kSeq (kReg (sV (oSlc 1 (xT 0) none (some (xT 2)) none) (sS 1 (xL 0) sEnd)))
 kRet))))
 kSkip)))
 (kReg (sV (oMov (xT 2)) (sV (oBin .add .no (xL 0) (ki 1)) (sS 2 (xL 0) sEnd)))))))))
 (kSeq (kReg (sS 1 (xT 0) sEnd))
 kRet))))
theorem t76 : FF d76 Tryz.f76 a76 [(.t 1)] := ff Tryz.func76 (by kernel_rfl)
def x76 : XFn := .go a76 1 pd6 [(.t 1)]
def d77 : FD := ⟨77, 2, [4, 3]⟩
def a77 : CodeF := (kSeq (kReg (sV (oLoad (xT 1)) (sC (cFn 78) [(xL 0), (ki 0)] (sV (oExt 0 (xL 0)) (sV (oExt 1 (xL 1)) (sS 3 (xL 1) (sS 2 (xL 0) sEnd)))))))
 (kBlock 0 (kLoop (kSeq (kRegC (fun k => k) (xT 2) kSkip
 (kExit 0))
 (kSeq (kBlock 1 (kRegC (fun k => (sC (cVal (xT 0)) [(xT 3)] (sV (oUn .not (xL 0)) k))) (xL 0) kRet
 kSkip))
 (kReg (sV (oLoad (xT 1)) (sV (oMov (xT 3)) (sV (oBin .add .no (xL 0) (ki 1)) (sC (cFn 78) [(xL 2), (xL 0)] (sV (oExt 0 (xL 0)) (sV (oExt 1 (xL 1)) (sS 3 (xL 1) (sS 2 (xL 0) sEnd))))))))))))))
theorem t77 : FF d77 Tryz.f77 a77 [] := ff Tryz.func77 (by kernel_rfl)
def x77 : XFn := .go a77 2 pd2 []
def d78 : FD := ⟨78, 2, [4, 5, 6]⟩
def a78 : CodeF := (kSeq (kReg (sS 2 (ki 0) (sS 3 (xK (bool false)) sEnd)))
 (kSeq (kBlock 0 (kLoop (kSeq (kRegC (fun k => (sC (cFn 74) [(xT 0)] (sV (oBin .lss .no (xT 1) (xL 0)) k))) (xL 0) kSkip
 (kExit 0))
 (kBlock 1 (kSeq (kSeq (kReg (sV (oNilc (xT 0)) (sV (oFaddr 0 (xL 0)) (sV (oLoad (xL 0)) (sV (oBin .quo .no (xT 1) (ki 64)) (sV (oIaddr 1 (xL 1) (xL 0)) (sV (oLoad (xL 0)) (sV (oBin .rem .no (xT 1) (ki 64)) (sV (oBin .shr .no (xL 1) (xL 0)) (sS 4 (xL 0) sEnd))))))))))
 (kRegC (fun k => (sV (oBin .neq .no (xT 4) (xK (int .u64 (.ofNat 0)))) k)) (xL 0) (kSeq (kReg (sC (cFn 141) [(xT 4)] (sV (oBin .add .no (xT 1) (xL 0)) (sS 2 (xL 0) (sS 3 (xK (bool true)) sEnd)))))
 kRet)
 kSkip))
 (kReg (sV (oMov (xT 1)) (sV (oBin .quo .no (xL 0) (ki 64)) (sV (oBin .add .no (xL 0) (ki 1)) (sV (oBin .mul .no (xL 0) (ki 64)) (sS 1 (xL 0) sEnd)))))))))))
 (kSeq (kReg (sS 2 (ki 0) (sS 3 (xK (bool false)) sEnd)))
 kRet)))
theorem t78 : FF d78 Tryz.f78 a78 [(.t 2), (.t 3)] := ff Tryz.func78 (by kernel_rfl)
def x78 : XFn := .go a78 2 pd3 [(.t 2), (.t 3)]
def d79 : FD := ⟨79, 2, [4, 7, 8, 9, 5]⟩
def a79 : CodeF := (kSeq (kReg (sS 2 (ki 0) sEnd))
 (kSeq (kSeq (kReg (sV (oLenL (xT 0)) (sS 3 (xL 0) (sS 4 (ki 0) sEnd))))
 (kBlock 0 (kLoop (kSeq (kReg (sV (oBin .lss .no (xT 4) (xT 3)) (sS 5 (xL 0) sEnd)))
 (kSeq (kCond (xT 5) kSkip
 (kExit 0))
 (kSeq (kBlock 1 (kSeq (kReg (sS 6 (xT 4) sEnd))
 (kRegC (fun k => (sV (oIaddr 7 (xT 0) (xT 6)) (sV (oLoadN 7 (xL 0)) (sC (cVal (xT 1)) [(xL 0)] k)))) (xL 0) (kSeq (kReg (sS 2 (xT 6) sEnd))
 kRet)
 kSkip)))
 (kReg (sV (oBin .add .no (xT 4) (ki 1)) (sS 4 (xL 0) sEnd)))))))))
 (kSeq (kReg (sS 2 (xK (int .i64 (.negSucc 0))) sEnd))
 kRet)))
theorem t79 : FF d79 Tryz.f79 a79 [(.t 2)] := ff Tryz.func79 (by kernel_rfl)
def x79 : XFn := .go a79 2 pd5 [(.t 2)]
def d80 : FD := ⟨80, 2, [3, 2]⟩
def a80 : CodeF := (kSeq (kReg (sH (oBox 110 7 (xT 0)) (sS 3 (xL 0) (sS 2 (xK (bool false)) sEnd))))
 (kSeq (kReg (sV (oFaddr 0 (xT 3)) (sV (oLoad (xL 0)) (sV (oLoad (xT 1)) (sV (oBin .eql .no (xL 1) (xL 0)) (sS 2 (xL 0) sEnd))))))
 kRet))
theorem t80 : FF d80 Tryz.f80 a80 [(.t 2)] := ff Tryz.func80 (by kernel_rfl)
def x80 : XFn := .go a80 2 pd2 [(.t 2)]
def d81 : FD := ⟨81, 1, [2, 1, 19, 20, 21, 18, 4, 3, 5]⟩
def a81 : CodeF := (kSeq (kReg (sH (oBox 55 1 (xT 0)) (sS 2 (xL 0) (sS 1 (ki 0) sEnd))))
 (kSeq (kRegC (fun k => (sV (oFaddr 0 (xT 2)) (sV (oLoad (xL 0)) (sV (oLenL (xL 0)) (sV (oBin .lss .no (xL 0) (ki 1)) (sG (xL 0) false (sV (oFaddr 0 (xT 2))) (sG (xL 1) false (sV (oLoad (xL 0))) (sG (xL 2) false (sV (oLenL (xL 0))) (sG (xL 3) false (sV (oBin .gtr .no (xL 0) (ki 16))) (sV (oPick (xL 4) (xK (bool true)) (xL 0)) k)))))))))) (xL 0) (kSeq (kReg (sS 1 (ki 80) sEnd))
 kRet)
 kSkip)
 (kSeq (kSeq (kReg (sV (oFaddr 0 (xT 2)) (sV (oLoad (xL 0)) (sS 6 (xL 0) (sV (oLenL (xT 6)) (sS 3 (xL 0) (sS 4 (ki 0) sEnd)))))))
 (kBlock 0 (kLoop (kSeq (kReg (sV (oBin .lss .no (xT 4) (xT 3)) (sS 5 (xL 0) sEnd)))
 (kSeq (kCond (xT 5) kSkip
 (kExit 0))
 (kSeq (kBlock 1 (kSeq (kReg (sV (oIaddr 7 (xT 6) (xT 4)) (sV (oLoadN 7 (xL 0)) (sH (oAlloc 110 7 [(str []), (int .i64 (.ofNat 0)), nils, (int .i64 (.ofNat 0)), (int .i64 (.ofNat 0)), (bool false), (bool false)]) (sS 7 (xL 0) (sS 8 (xT 4) (sH (oStore 7 (xT 7) (xL 1)) sEnd)))))))
 (kSeq (kReg (sV (oLoadN 1 (xT 2)) (sV (oFaddr 0 (xT 7)) (sV (oLoad (xL 0)) (sC (cFn 48) [(xL 2), (xL 0)] (sV (oExt 0 (xL 0)) (sV (oExt 1 (xL 1)) (sS 9 (xL 1) sEnd))))))))
 (kRegC (fun k => (sV (oBin .neq .no (xT 9) (xT 8)) (sG (xL 0) false (sV (oLoadN 7 (xT 7))) (sG (xL 1) false (sC (cFn 142) [(xL 0)]) (sG (xL 2) false (sV (oUn .not (xL 0))) (sV (oPick (xL 3) (xK (bool true)) (xL 0)) k)))))) (xL 0) (kSeq (kReg (sS 1 (ki 80) sEnd))
 kRet)
 kSkip))))
 (kReg (sV (oBin .add .no (xT 4) (ki 1)) (sS 4 (xL 0) sEnd)))))))))
 (kSeq (kReg (sS 1 (ki 0) sEnd))
 kRet))))
theorem t81 : FF d81 Tryz.f81 a81 [(.t 1)] := ff Tryz.func81 (by kernel_rfl)
def x81 : XFn := .go a81 1 pd9 [(.t 1)]
def d82 : FD := ⟨82, 1, [1]⟩
def a82 : CodeF := (kSeq (kReg (sS 1 (ki 0) sEnd))
 (kSeq (kReg (sV (oLoad (xT 0)) (sC (cFn 83) [(xL 0), (ki 81)] (sS 1 (xL 0) sEnd))))
 kRet))
theorem t82 : FF d82 Tryz.f82 a82 [(.t 1)] := ff Tryz.func82 (by kernel_rfl)
def x82 : XFn := .go a82 1 pd1 [(.t 1)]
def d83 : FD := ⟨83, 2, [4]⟩
def a83 : CodeF := (kSeq (kReg (sS 2 (ki 0) sEnd))
 (kSeq (kRegC (fun k => k) (xT 0) (kSeq (kReg (sS 2 (ki 0) sEnd))
 kRet)
 kSkip)
 (kSeq (kReg (sS 2 (xT 1) sEnd))
 kRet)))
theorem t83 : FF d83 Tryz.f83 a83 [(.t 2)] := ff Tryz.func83 (by kernel_rfl)
def x83 : XFn := .go a83 2 pd1 [(.t 2)]
def d84 : FD := ⟨84, 2, [2]⟩
def a84 : CodeF := (kSeq (kReg (sS 2 (ki 0) sEnd))
 (kSeq (kReg (sV (oLoadN 7 (xT 0)) (sV (oFaddr 1 (xT 1)) (sV (oLoad (xL 0)) (sV (oFaddr 2 (xT 1)) (sV (oLoad (xL 0)) (sC (cFn 85) [(xL 4), (xL 2), (xL 0)] (sC (cFn 83) [(xL 0), (ki 82)] (sS 2 (xL 0) sEnd)))))))))
 kRet))
theorem t84 : FF d84 Tryz.f84 a84 [(.t 2)] := ff Tryz.func84 (by kernel_rfl)
def x84 : XFn := .go a84 2 pd1 [(.t 2)]
def d85 : FD := ⟨85, 3, [6, 3, 8]⟩
def a85 : CodeF := (kSeq (kReg (sH (oBox 110 7 (xT 0)) (sS 4 (xL 0) (sS 3 (xK (bool false)) sEnd))))
 (kSeq (kSeq (kReg (sV (oFaddr 1 (xT 4)) (sV (oLoad (xL 0)) (sS 5 (xL 0) sEnd))))
 (kBlock 0 (kRegC (fun k => (sV (oBin .eql .no (xT 5) (ki 3)) k)) (xL 0) (kSeq (kReg (sV (oBin .eql .no (xT 1) (xK (str []))) (sG (xL 0) true (sV (oMov (xT 2))) (sG (xL 1) true (sV (oLenL (xL 0))) (sG (xL 2) true (sV (oBin .eql .no (xL 0) (ki 1))) (sV (oPick (xL 3) (xL 0) (xK (bool false))) (sS 3 (xL 0) sEnd)))))))
 kRet)
 (kRegC (fun k => (sV (oBin .eql .no (xT 5) (ki 5)) k)) (xL 0) (kSeq (kReg (sV (oBin .eql .no (xT 1) (xK (str []))) (sG (xL 0) true (sV (oMov (xT 2))) (sG (xL 1) true (sV (oLenL (xL 0))) (sG (xL 2) true (sV (oFaddr 4 (xT 4))) (sG (xL 3) true (sV (oLoad (xL 0))) (sG (xL 4) true (sV (oBin .eql .no (xL 2) (xL 0))) (sV (oPick (xL 5) (xL 0) (xK (bool false))) (sS 3 (xL 0) sEnd)))))))))
 kRet)
 kSkip))))
 (kSeq (kReg (sV (oLenL (xT 2)) (sV (oBin .eql .no (xL 0) (ki 0)) (sS 3 (xL 0) sEnd))))
 kRet)))
theorem t85 : FF d85 Tryz.f85 a85 [(.t 3)] := ff Tryz.func85 (by kernel_rfl)
def x85 : XFn := .go a85 3 pd3 [(.t 3)]
def d86 : FD := ⟨86, 3, [3]⟩
def a86 : CodeF := (kSeq (kReg (sS 3 (ki 0) sEnd))
 (kSeq (kReg (sV (oFaddr 5 (xT 0)) (sV (oLoad (xL 0)) (sG (xL 0) false (sV (oLoad (xT 1))) (sG (xL 1) false (sV (oLoad (xT 2))) (sG (xL 2) false (sV (oIaddr 1 (xL 1) (xL 0))) (sG (xL 3) false (sV (oLoad (xL 0))) (sG (xL 4) false (sV (oBin .eql .no (xL 0) (ki 0))) (sV (oPick (xL 5) (xK (bool true)) (xL 0)) (sC (cFn 83) [(xL 0), (ki 84)] (sS 3 (xL 0) sEnd)))))))))))
 kRet))
theorem t86 : FF d86 Tryz.f86 a86 [(.t 3)] := ff Tryz.func86 (by kernel_rfl)
def x86 : XFn := .go a86 3 pd1 [(.t 3)]
def d87 : FD := ⟨87, 5, [5]⟩
def a87 : CodeF := (kSeq (kReg (sS 5 (ki 0) sEnd))
 (kSeq (kDraw [(.v (oLoadN 7 (xT 0)), none), (.v (oLoadN 3 (xT 1)), none), (.v (oLoad (xT 3)), none), (.v (oLoad (xT 4)), none), (.v (oIaddr 1 (xL 1) (xL 0)), none), (.c (cFn 88) [(xL 4), (xL 3), (xT 2), (xL 0)], none), (.c (cFn 83) [(xL 0), (ki 83)], none), (.v (oMov (xL 0)), none)] 0 [none, none, none, none, none, (some 0)] [])
 kRet))
theorem t87 : FF d87 Tryz.f87 a87 [(.t 5)] := ff Tryz.func87 (by kernel_rfl)
def x87 : XFn := .go a87 5 pd1 [(.t 5)]
def d88 : FD := ⟨88, 4, [8, 4, 14, 5, 9, 10, 11, 12]⟩
def a88 : CodeF := (kSeq (kReg (sH (oBox 110 7 (xT 0)) (sS 5 (xL 0) (sH (oBox 50 3 (xT 1)) (sS 7 (xL 0) (sS 4 (xK (bool false)) sEnd))))))
 (kSeq (kSeq (kReg (sV (oFaddr 1 (xT 5)) (sV (oLoad (xL 0)) (sS 6 (xL 0) sEnd))))
 (kBlock 0 (kRegC (fun k => (sV (oBin .eql .no (xT 6) (ki 1)) k)) (xL 0) (kSeq (kReg (sV (oFaddr 2 (xT 5)) (sV (oLoad (xL 0)) (sV (oFaddr 1 (xT 7)) (sV (oLoad (xL 0)) (sC (cFn 143) [(xL 2), (xL 0)] (sV (oExt 0 (xL 0)) (sV (oExt 1 (xL 1)) (sS 8 (xL 1) (sS 9 (xL 0) sEnd))))))))))
 (kSeq (kReg (sV (oNilc (xT 3)) (sV (oLoad (xL 0)) (sV (oLenL (xT 8)) (sV (oBin .add .no (xL 1) (xL 0)) (sV (oNilc (xT 3)) (sH (oStore 1 (xL 0) (xL 1)) sEnd)))))))
 (kSeq (kReg (sV (oFaddr 1 (xT 7)) (sV (oLoad (xL 0)) (sV (oNilc (xT 2)) (sV (oFaddr 1 (xL 0)) (sH (oStore 1 (xL 0) (xL 2)) sEnd))))))
 (kSeq (kReg (sV (oBin .eql .no (xT 9) (ki 0)) (sG (xL 0) true (sV (oMov (xT 3))) (sG (xL 1) true (sV (oNilc (xL 0))) (sG (xL 2) true (sV (oLoad (xL 0))) (sG (xL 3) true (sV (oBin .leq .no (xL 0) (ki 4096))) (sV (oPick (xL 4) (xL 0) (xK (bool false))) (sS 4 (xL 0) sEnd))))))))
 kRet))))
 (kRegC (fun k => (sV (oBin .eql .no (xT 6) (ki 2)) k)) (xL 0) (kSeq (kReg (sV (oFaddr 1 (xT 7)) (sV (oLoad (xL 0)) (sV (oNilc (xT 2)) (sV (oFaddr 1 (xL 0)) (sH (oStore 1 (xL 0) (xL 2)) sEnd))))))
 (kSeq (kReg (sV (oFaddr 1 (xT 7)) (sV (oLoad (xL 0)) (sV (oLenS (xL 0)) (sV (oBin .leq .no (xL 0) (ki 256)) (sS 4 (xL 0) sEnd))))))
 kRet))
 (kRegC (fun k => (sV (oBin .eql .no (xT 6) (ki 4)) k)) (xL 0) (kSeq (kReg (sV (oFaddr 1 (xT 7)) (sV (oLoad (xL 0)) (sV (oFaddr 3 (xT 5)) (sV (oLoad (xL 0)) (sC (cFn 144) [(xL 2), (xL 0)] (sV (oExt 0 (xL 0)) (sV (oExt 1 (xL 1)) (sS 10 (xL 1) (sS 11 (xL 0) sEnd))))))))))
 (kSeq (kReg (sH (oBsl 2 1 1 [(int .i64 (.ofNat 0))] [(0, 1, (xT 10))]) (sV (oNilc (xT 2)) (sV (oFaddr 2 (xL 0)) (sH (oStore 1 (xL 0) (xL 2)) sEnd)))))
 (kSeq (kReg (sV (oBin .eql .no (xT 11) (ki 0)) (sS 4 (xL 0) sEnd)))
 kRet)))
 kSkip)))))
 (kSeq (kReg (sV (oFaddr 2 (xT 7)) (sV (oLoad (xL 0)) (sC (cFn 60) [(xL 0)] (sV (oNilc (xT 2)) (sV (oFaddr 2 (xL 0)) (sH (oStore 1 (xL 0) (xL 2)) sEnd)))))))
 (kSeq (kReg (sS 4 (xK (bool true)) sEnd))
 kRet))))
theorem t88 : FF d88 Tryz.f88 a88 [(.t 4)] := ff Tryz.func88 (by kernel_rfl)
def x88 : XFn := .go a88 4 pd8 [(.t 4)]
def d89 : FD := ⟨89, 2, [4]⟩
def a89 : CodeF := (kSeq (kReg (sS 2 (xK (bool false)) sEnd))
 (kSeq (kReg (sC (cFn 145) [(xT 0), (xT 1)] (sV (oBin .geq .no (xL 0) (ki 0)) (sS 2 (xL 0) sEnd))))
 kRet))
theorem t89 : FF d89 Tryz.f89 a89 [(.t 2)] := ff Tryz.func89 (by kernel_rfl)
def x89 : XFn := .go a89 2 pd1 [(.t 2)]
def d90 : FD := ⟨90, 3, [4, 3]⟩
def a90 : CodeF := (kSeq (kReg (sH (oBox 163 3 (xT 0)) (sS 4 (xL 0) (sS 3 (xK (bool false)) sEnd))))
 (kSeq (kReg (sV (oFaddr 0 (xT 4)) (sV (oLoad (xL 0)) (sV (oLoad (xT 1)) (sV (oBin .eql .no (xL 1) (xL 0)) (sG (xL 0) true (sV (oFaddr 1 (xT 4))) (sG (xL 1) true (sV (oLoad (xL 0))) (sG (xL 2) true (sV (oLoad (xT 2))) (sG (xL 3) true (sV (oBin .eql .no (xL 1) (xL 0))) (sV (oPick (xL 4) (xL 0) (xK (bool false))) (sS 3 (xL 0) sEnd)))))))))))
 kRet))
theorem t90 : FF d90 Tryz.f90 a90 [(.t 3)] := ff Tryz.func90 (by kernel_rfl)
def x90 : XFn := .go a90 3 pd2 [(.t 3)]
def d91 : FD := ⟨91, 2, [6, 7, 8, 5, 4]⟩
def a91 : CodeF := (kSeq (kReg (sV (oLoad (xT 1)) (sS 5 (xL 0) (sV (oLenL (xT 5)) (sS 2 (xL 0) (sS 3 (ki 0) sEnd))))))
 (kBlock 0 (kLoop (kSeq (kReg (sV (oBin .lss .no (xT 3) (xT 2)) (sS 4 (xL 0) sEnd)))
 (kSeq (kCond (xT 4) kSkip
 (kExit 0))
 (kSeq (kBlock 1 (kSeq (kReg (sV (oIaddr 1 (xT 5) (xT 3)) (sV (oLoad (xL 0)) (sS 6 (xL 0) sEnd))))
 (kRegC (fun k => (sC (cVal (xT 0)) [(xT 6)] (sV (oUn .not (xL 0)) k))) (xL 0) kRet
 kSkip)))
 (kReg (sV (oBin .add .no (xT 3) (ki 1)) (sS 3 (xL 0) sEnd)))))))))
theorem t91 : FF d91 Tryz.f91 a91 [] := ff Tryz.func91 (by kernel_rfl)
def x91 : XFn := .go a91 2 pd5 []
def d92 : FD := ⟨92, 2, [4, 5, 6]⟩
def a92 : CodeF := (kSeq (kReg (sS 2 (ki 0) (sS 3 (xK (bool false)) sEnd)))
 (kSeq (kReg (sC (cFn 146) [(xT 0), (xT 1)] (sS 4 (xL 0) sEnd)))
 (kSeq (kRegC (fun k => (sC (cFn 147) [(xT 0)] (sV (oBin .geq .no (xT 4) (xL 0)) (sG (xL 0) false (sV (oMov (xT 0))) (sG (xL 1) false (sV (oMov (xT 4))) (sG (xL 2) false (sC (cFn 148) [(xL 1), (xL 0)]) (sG (xL 3) false (sV (oMov (xT 1))) (sG (xL 4) false (sV (oBin .neq .no (xL 1) (xL 0))) (sV (oPick (xL 5) (xK (bool true)) (xL 0)) k))))))))) (xL 0) (kSeq (kReg (sS 2 (ki 0) (sS 3 (xK (bool false)) sEnd)))
 kRet)
 kSkip)
 (kSeq (kReg (sS 2 (xT 4) (sS 3 (xK (bool true)) sEnd)))
 kRet))))
theorem t92 : FF d92 Tryz.f92 a92 [(.t 2), (.t 3)] := ff Tryz.func92 (by kernel_rfl)
def x92 : XFn := .go a92 2 pd3 [(.t 2), (.t 3)]
def d93 : FD := ⟨93, 1, [2]⟩
def a93 : CodeF := (kSeq (kReg (sS 1 (xK nilptr) sEnd))
 (kSeq (kReg (sV (oBuild [nils, (int .i64 (.ofNat 0))] [(1, 1, (xK (int .i64 (.negSucc 0))))]) (sV (oBuild [nils, (int .i64 (.ofNat 0)), nilptr, (int .i64 (.ofNat 0))] [(2, 1, (xT 0)), (0, 2, (xL 0))]) (sH (oBox 271 4 (xL 0)) (sS 1 (xL 0) sEnd)))))
 kRet))
theorem t93 : FF d93 Tryz.f93 a93 [(.t 1)] := ff Tryz.func93 (by kernel_rfl)
def x93 : XFn := .go a93 1 pd1 [(.t 1)]
def d94 : FD := ⟨94, 1, [2, 21]⟩
def a94 : CodeF := (kSeq (kReg (sS 1 (xK (bool false)) sEnd))
 (kSeq (kRegC (fun k => (sV (oBin .eql .ptr (xT 0) (xK nilptr)) k)) (xL 0) (kSeq (kReg (sS 1 (xK (bool false)) sEnd))
 kRet)
 kSkip)
 (kSeq (kSeq (kDraw [(.v (oMov (xT 0)), none), (.c (cFn 149) [(xL 0)], none), (.v (oMov (xL 0)), none), (.v (oMov (xT 0)), (some ((xL 0), true))), (.v (oNilc (xL 0)), (some ((xL 1), true))), (.v (oFaddr 0 (xL 0)), (some ((xL 2), true))), (.v (oFaddr 1 (xL 0)), (some ((xL 3), true))), (.v (oLoad (xL 0)), (some ((xL 4), true))), (.v (oBin .add .no (xL 0) (ki 1)), (some ((xL 5), true))), (.v (oMov (xT 0)), (some ((xL 6), true))), (.v (oNilc (xL 0)), (some ((xL 7), true))), (.v (oFaddr 0 (xL 0)), (some ((xL 8), true))), (.v (oFaddr 0 (xL 0)), (some ((xL 9), true))), (.v (oLoad (xL 0)), (some ((xL 10), true))), (.v (oLenL (xL 0)), (some ((xL 11), true))), (.v (oBin .lss .no (xL 6) (xL 0)), (some ((xL 12), true))), (.v (oPick (xL 13) (xL 0) (xK (bool false))), none)] 0 [none, none, (some 0)] [])
 (kCond (xT 2) (kSeq (kReg (sV (oNilc (xT 0)) (sV (oFaddr 0 (xL 0)) (sV (oFaddr 1 (xL 0)) (sV (oLoad (xL 0)) (sV (oBin .add .no (xL 0) (ki 1)) (sV (oNilc (xT 0)) (sV (oFaddr 0 (xL 0)) (sV (oFaddr 1 (xL 0)) (sH (oStore 1 (xL 0) (xL 3)) sEnd))))))))))
 (kSeq (kReg (sS 1 (xK (bool true)) sEnd))
 kRet))
 kSkip))
 (kSeq (kReg (sC (cFn 150) [(xT 0)] (sS 1 (xL 0) sEnd)))
 kRet))))
theorem t94 : FF d94 Tryz.f94 a94 [(.t 1)] := ff Tryz.func94 (by kernel_rfl)
def x94 : XFn := .go a94 1 pd2 [(.t 1)]
def d95 : FD := ⟨95, 1, [2]⟩
def a95 : CodeF := (kSeq (kReg (sS 1 (ki 0) sEnd))
 (kSeq (kBlock 0 (kRegC (fun k => (sC (cFn 149) [(xT 0)] k)) (xL 0) (kSeq (kDraw [(.v (oMov (xT 0)), none), (.v (oNilc (xL 0)), none), (.v (oFaddr 0 (xL 0)), none), (.v (oFaddr 0 (xL 0)), none), (.v (oLoad (xL 0)), none), (.v (oMov (xT 0)), none), (.v (oNilc (xL 0)), none), (.v (oFaddr 0 (xL 0)), none), (.v (oFaddr 1 (xL 0)), none), (.v (oLoad (xL 0)), none), (.v (oIaddr 2 (xL 5) (xL 0)), none), (.v (oFaddr 0 (xL 0)), none), (.v (oLoad (xL 0)), none), (.v (oMov (xL 0)), none)] 0 [none, (some 0)] [])
 kRet)
 (kRegC (fun k => (sV (oBin .neq .ptr (xT 0) (xK nilptr)) (sG (xL 0) true (sV (oMov (xT 0))) (sG (xL 1) true (sV (oNilc (xL 0))) (sG (xL 2) true (sV (oFaddr 0 (xL 0))) (sG (xL 3) true (sV (oFaddr 1 (xL 0))) (sG (xL 4) true (sV (oLoad (xL 0))) (sG (xL 5) true (sV (oBin .lss .no (xL 0) (ki 0))) (sV (oPick (xL 6) (xL 0) (xK (bool false))) k))))))))) (xL 0) (kSeq (kReg (sS 1 (xK (int .i64 (.negSucc 0))) sEnd))
 kRet)
 kSkip)))
 (kSeq (kReg (sS 1 (ki 16384) sEnd))
 kRet)))
theorem t95 : FF d95 Tryz.f95 a95 [(.t 1)] := ff Tryz.func95 (by kernel_rfl)
def x95 : XFn := .go a95 1 pd1 [(.t 1)]
def d96 : FD := ⟨96, 2, [4, 3, 2]⟩
def a96 : CodeF := (kSeq (kReg (sH (oBox 55 1 (xT 0)) (sS 4 (xL 0) (sH (oBox 55 1 (xT 1)) (sS 3 (xL 0) (sS 2 (xK (bool false)) sEnd))))))
 (kSeq (kReg (sV (oFaddr 0 (xT 4)) (sV (oLoad (xL 0)) (sV (oFaddr 0 (xT 3)) (sV (oLoad (xL 0)) (sC (cFn 136) [(xL 2), (xL 0), (xK (.func (.func 151) [] []))] (sS 2 (xL 0) sEnd)))))))
 kRet))
theorem t96 : FF d96 Tryz.f96 a96 [(.t 2)] := ff Tryz.func96 (by kernel_rfl)
def x96 : XFn := .go a96 2 pd3 [(.t 2)]
def d97 : FD := ⟨97, 1, [2]⟩
def a97 : CodeF := (kSeq (kReg (sS 1 (xK nils) sEnd))
 (kSeq (kReg (sC (cFn 152) [(xK nils), (xT 0)] (sS 1 (xL 0) sEnd)))
 kRet))
theorem t97 : FF d97 Tryz.f97 a97 [(.t 1)] := ff Tryz.func97 (by kernel_rfl)
def x97 : XFn := .go a97 1 pd1 [(.t 1)]
def d98 : FD := ⟨98, 2, [4, 3, 2]⟩
def a98 : CodeF := (kSeq (kReg (sH (oBox 84 1 (xT 0)) (sS 4 (xL 0) (sH (oBox 85 1 (xT 1)) (sS 3 (xL 0) (sS 2 (xK nilfunc) sEnd))))))
 (kSeq (kReg (sV (oMkfn 153 [] [(xT 4), (xT 3)]) (sS 2 (xL 0) sEnd)))
 kRet))
theorem t98 : FF d98 Tryz.f98 a98 [(.t 2)] := ff Tryz.func98 (by kernel_rfl)
def x98 : XFn := .go a98 2 pd3 [(.t 2)]
def d99 : FD := ⟨99, 2, [4, 5, 7, 6, 9, 8]⟩
def a99 : CodeF := (kSeq (kReg (sS 2 (xK (int .u64 (.ofNat 0))) (sS 3 (xK (int .u64 (.ofNat 0))) sEnd)))
 (kSeq (kCond (xK (bool false)) (kSeq (kReg (sV (oConv .u32 (xT 0)) (sV (oConv .u32 (xT 1)) (sC (cFn 159) [(xL 1), (xL 0)] (sV (oExt 0 (xL 0)) (sV (oExt 1 (xL 1)) (sS 5 (xL 1) (sS 4 (xL 0) sEnd))))))))
 (kSeq (kReg (sV (oConv .u64 (xT 5)) (sV (oConv .u64 (xT 4)) (sS 2 (xL 1) (sS 3 (xL 0) sEnd)))))
 kRet))
 kSkip)
 (kSeq (kReg (sC (cFn 160) [(xT 0), (xT 1)] (sV (oExt 0 (xL 0)) (sV (oExt 1 (xL 1)) (sS 7 (xL 1) (sS 6 (xL 0) sEnd))))))
 (kSeq (kReg (sS 2 (xT 7) (sS 3 (xT 6) sEnd)))
 kRet))))
theorem t99 : FF d99 Tryz.f99 a99 [(.t 2), (.t 3)] := ff Tryz.func99 (by kernel_rfl)
def x99 : XFn := .go a99 2 pd6 [(.t 2), (.t 3)]
def d100 : FD := ⟨100, 1, [2]⟩
def a100 : CodeF := (kSeq (kReg (sS 1 (ki 0) sEnd))
 (kSeq (kRegC (fun k => (sV (oBin .eql .ptr (xT 0) (xK nilptr)) k)) (xL 0) (kSeq (kReg (sS 1 (ki 0) sEnd))
 kRet)
 kSkip)
 (kSeq (kReg (sV (oNilc (xT 0)) (sV (oFaddr 1 (xL 0)) (sV (oLoad (xL 0)) (sS 1 (xL 0) sEnd)))))
 kRet)))
theorem t100 : FF d100 Tryz.f100 a100 [(.t 1)] := ff Tryz.func100 (by kernel_rfl)
def x100 : XFn := .go a100 1 pd1 [(.t 1)]
def d101 : FD := ⟨101, 3, [6, 7, 8, 10, 9, 11]⟩
def a101 : CodeF := (kSeq (kReg (sS 3 (ki 0) (sS 4 (xK (bool false)) sEnd)))
 (kSeq (kReg (sV (oLenL (xT 0)) (sS 5 (xL 0) sEnd)))
 (kSeq (kReg (sS 7 (ki 0) (sS 6 (xT 5) sEnd)))
 (kSeq (kBlock 0 (kLoop (kSeq (kRegC (fun k => (sV (oBin .lss .no (xT 7) (xT 6)) k)) (xL 0) kSkip
 (kExit 0))
 (kBlock 1 (kSeq (kReg (sV (oBin .add .no (xT 7) (xT 6)) (sV (oConv .u64 (xL 0)) (sV (oBin .shr .no (xL 0) (xK (int .u64 (.ofNat 1)))) (sV (oConv .i64 (xL 0)) (sS 8 (xL 0) sEnd))))))
 (kRegC (fun k => (sV (oIaddr 3 (xT 0) (xT 8)) (sV (oLoadN 3 (xL 0)) (sC (cVal (xT 2)) [(xL 0), (xT 1)] (sV (oBin .lss .no (xL 0) (ki 0)) k))))) (xL 0) (kReg (sV (oBin .add .no (xT 8) (ki 1)) (sS 7 (xL 0) sEnd)))
 (kReg (sS 6 (xT 8) sEnd))))))))
 (kSeq (kReg (sV (oBin .lss .no (xT 7) (xT 5)) (sG (xL 0) true (sV (oMov (xT 2))) (sG (xL 1) true (sV (oMov (xT 0))) (sG (xL 2) true (sV (oMov (xT 7))) (sG (xL 3) true (sV (oIaddr 3 (xL 1) (xL 0))) (sG (xL 4) true (sV (oLoadN 3 (xL 0))) (sG (xL 5) true (sV (oMov (xT 1))) (sG (xL 6) true (sC (cVal (xL 5)) [(xL 1), (xL 0)]) (sG (xL 7) true (sV (oBin .eql .no (xL 0) (ki 0))) (sV (oPick (xL 8) (xL 0) (xK (bool false))) (sS 3 (xT 7) (sS 4 (xL 0) sEnd)))))))))))))
 kRet)))))
theorem t101 : FF d101 Tryz.f101 a101 [(.t 3), (.t 4)] := ff Tryz.func101 (by kernel_rfl)
def x101 : XFn := .go a101 3 pd6 [(.t 3), (.t 4)]
def d102 : FD := ⟨102, 2, [4, 2]⟩
def a102 : CodeF := (kSeq (kReg (sH (oBox 193 3 (xT 0)) (sS 3 (xL 0) (sS 2 (ki 0) sEnd))))
 (kSeq (kReg (sV (oFaddr 1 (xT 3)) (sV (oLoad (xL 0)) (sV (oBin .sub .no (xL 0) (xT 1)) (sS 2 (xL 0) sEnd)))))
 kRet))
theorem t102 : FF d102 Tryz.f102 a102 [(.t 2)] := ff Tryz.func102 (by kernel_rfl)
def x102 : XFn := .go a102 2 pd2 [(.t 2)]
def d103 : FD := ⟨103, 1, [2, 1]⟩
def a103 : CodeF := (kSeq (kReg (sH (oBox 193 3 (xT 0)) (sS 2 (xL 0) (sS 1 (xK nilfunc) sEnd))))
 (kSeq (kReg (sV (oMkfn 161 [] [(xT 2)]) (sS 1 (xL 0) sEnd)))
 kRet))
theorem t103 : FF d103 Tryz.f103 a103 [(.t 1)] := ff Tryz.func103 (by kernel_rfl)
def x103 : XFn := .go a103 1 pd2 [(.t 1)]
def d104 : FD := ⟨104, 2, [4, 2, 17, 18, 19, 16, 5, 7]⟩
def a104 : CodeF := (kSeq (kReg (sH (oBox 55 1 (xT 0)) (sS 3 (xL 0) (sS 2 (ki 0) sEnd))))
 (kSeq (kBlock 0 (kRegC (fun k => (sV (oLoadN 1 (xT 3)) (sC (cFn 81) [(xL 0)] (sV (oBin .neq .no (xL 0) (ki 0)) k)))) (xL 0) (kSeq (kReg (sS 2 (ki 80) sEnd))
 kRet)
 (kRegC (fun k => (sV (oLenL (xT 1)) (sV (oBin .gtr .no (xL 0) (ki 16384)) k))) (xL 0) (kSeq (kReg (sS 2 (ki 3) sEnd))
 kRet)
 kSkip)))
 (kSeq (kReg (sS 8 (xK (int .u64 (.ofNat 0))) sEnd))
 (kSeq (kSeq (kReg (sS 7 (xT 1) (sV (oLenL (xT 7)) (sS 4 (xL 0) (sS 5 (ki 0) sEnd)))))
 (kBlock 1 (kLoop (kSeq (kReg (sV (oBin .lss .no (xT 5) (xT 4)) (sS 6 (xL 0) sEnd)))
 (kSeq (kCond (xT 6) kSkip
 (kExit 1))
 (kSeq (kBlock 2 (kSeq (kReg (sV (oIaddr 2 (xT 7) (xT 5)) (sV (oLoadN 2 (xL 0)) (sH (oAlloc 104 2 [(int .u64 (.ofNat 0)), nils]) (sS 9 (xL 0) (sH (oStore 2 (xT 9) (xL 1)) sEnd))))))
 (kSeq (kRegC (fun k => (sV (oFaddr 0 (xT 9)) (sV (oLoad (xL 0)) (sV (oBin .leq .no (xL 0) (xT 8)) k)))) (xL 0) (kSeq (kReg (sS 2 (ki 1) sEnd))
 kRet)
 kSkip)
 (kReg (sV (oFaddr 0 (xT 9)) (sV (oLoad (xL 0)) (sS 8 (xL 0) sEnd)))))))
 (kReg (sV (oBin .add .no (xT 5) (ki 1)) (sS 5 (xL 0) sEnd)))))))))
 (kSeq (kReg (sS 2 (ki 0) sEnd))
 kRet)))))
theorem t104 : FF d104 Tryz.f104 a104 [(.t 2)] := ff Tryz.func104 (by kernel_rfl)
def x104 : XFn := .go a104 2 pd8 [(.t 2)]
def d105 : FD := ⟨105, 1, [2, 1, 12, 13, 14, 11, 5, 4, 3]⟩
def a105 : CodeF := (kSeq (kReg (sH (oBox 40 1 (xT 0)) (sS 2 (xL 0) (sH (oAlloc 40 1 [nils]) (sS 1 (xL 0) sEnd)))))
 (kSeq (kReg (sV (oFaddr 0 (xT 2)) (sV (oLoad (xL 0)) (sV (oLenL (xL 0)) (sH (oMksl 50 3 [(str []), (str []), nils] (xL 0) (xL 0)) (sS 9 (xL 0) sEnd))))))
 (kSeq (kSeq (kReg (sV (oFaddr 0 (xT 2)) (sV (oLoad (xL 0)) (sS 6 (xL 0) (sV (oLenL (xT 6)) (sS 3 (xL 0) (sS 4 (ki 0) sEnd)))))))
 (kBlock 0 (kLoop (kSeq (kReg (sV (oBin .lss .no (xT 4) (xT 3)) (sS 5 (xL 0) sEnd)))
 (kSeq (kCond (xT 5) kSkip
 (kExit 0))
 (kSeq (kBlock 1 (kSeq (kReg (sV (oIaddr 3 (xT 6) (xT 4)) (sV (oLoadN 3 (xL 0)) (sH (oAlloc 50 3 [(str []), (str []), nils]) (sS 7 (xL 0) (sS 8 (xT 4) (sH (oStore 3 (xT 7) (xL 1)) sEnd)))))))
 (kSeq (kReg (sV (oFaddr 2 (xT 7)) (sV (oLoad (xL 0)) (sC (cFn 60) [(xL 0)] (sC (cFn 165) [(xL 0)] (sV (oFaddr 2 (xT 7)) (sH (oStore 1 (xL 0) (xL 1)) sEnd)))))))
 (kReg (sV (oLoadN 3 (xT 7)) (sV (oIaddr 3 (xT 9) (xT 8)) (sH (oStore 3 (xL 0) (xL 1)) sEnd)))))))
 (kReg (sV (oBin .add .no (xT 4) (ki 1)) (sS 4 (xL 0) sEnd)))))))))
 (kSeq (kReg (sV (oBuild [nils] [(0, 1, (xT 9))]) (sH (oStore 1 (xT 1) (xL 0)) sEnd)))
 kRet))))
theorem t105 : FF d105 Tryz.f105 a105 [(.cell 1 (some 1))] := ff Tryz.func105 (by kernel_rfl)
def x105 : XFn := .go a105 1 pd9 [(.cell 1 (some 1))]
def d106 : FD := ⟨106, 1, [2]⟩
def a106 : CodeF := (kSeq (kReg (sS 1 (xK nilfunc) sEnd))
 (kSeq (kDraw [(.v (oMov (xT 0)), none), (.v (oMkfn 166 [(xL 0)] []), none), (.v (oMov (xT 0)), none), (.v (oMkfn 167 [(xL 0)] []), none), (.v (oMov (xT 0)), none), (.v (oMkfn 168 [(xL 0)] []), none), (.v (oMov (xT 0)), none), (.v (oMkfn 168 [(xL 0)] []), none), (.v (oMov (xT 0)), none), (.v (oMkfn 169 [(xL 0)] []), none), (.h (oBsl 220 1 6 [nilfunc] [(1, 1, (xL 8)), (2, 1, (xL 6)), (3, 1, (xL 4)), (4, 1, (xL 2)), (5, 1, (xL 0))]), none), (.v (oMov (xT 0)), none), (.v (oNilc (xL 0)), none), (.v (oFaddr 6 (xL 0)), none), (.v (oFaddr 0 (xL 0)), none), (.v (oLoad (xL 0)), none), (.v (oMov (xT 0)), none), (.v (oNilc (xL 0)), none), (.v (oFaddr 7 (xL 0)), none), (.v (oLoad (xL 0)), none), (.v (oIaddr 7 (xL 4) (xL 0)), none), (.v (oFaddr 1 (xL 0)), none), (.v (oLoad (xL 0)), none), (.v (oIaddr 1 (xL 12) (xL 0)), none), (.v (oLoad (xL 0)), none), (.v (oMov (xL 0)), none)] 0 [none, (some 0)] [(10, 15), (6, 15), (3, 15)])
 kRet))
theorem t106 : FF d106 Tryz.f106 a106 [(.t 1)] := ff Tryz.func106 (by kernel_rfl)
def x106 : XFn := .go a106 1 pd1 [(.t 1)]
def d107 : FD := ⟨107, 2, [4, 5, 6, 7]⟩
def a107 : CodeF := (kSeq (kReg (sS 2 (xK nils) sEnd))
 (kSeq (kReg (sC (cFn 145) [(xT 0), (xT 1)] (sS 3 (xL 0) sEnd)))
 (kSeq (kRegC (fun k => (sV (oBin .eql .no (xT 3) (xK (int .i64 (.negSucc 0)))) k)) (xL 0) (kSeq (kReg (sS 2 (xT 0) sEnd))
 kRet)
 kSkip)
 (kSeq (kSeq (kReg (sV (oBin .add .no (xT 3) (ki 1)) (sS 4 (xL 0) sEnd)))
 (kBlock 0 (kLoop (kSeq (kRegC (fun k => (sV (oLenL (xT 0)) (sV (oBin .lss .no (xT 4) (xL 0)) k))) (xL 0) kSkip
 (kExit 0))
 (kSeq (kBlock 1 (kSeq (kReg (sV (oIaddr 3 (xT 0) (xT 4)) (sV (oLoadN 3 (xL 0)) (sH (oAlloc 163 3 [(int .i64 (.ofNat 0)), (str []), nils]) (sS 5 (xL 0) (sH (oStore 3 (xT 5) (xL 1)) sEnd))))))
 (kRegC (fun k => (sV (oLoadN 3 (xT 5)) (sC (cVal (xT 1)) [(xL 0)] (sV (oUn .not (xL 0)) k)))) (xL 0) (kSeq (kReg (sV (oLoadN 3 (xT 5)) (sV (oIaddr 3 (xT 0) (xT 3)) (sH (oStore 3 (xL 0) (xL 1)) sEnd))))
 (kReg (sV (oMov (xT 3)) (sV (oBin .add .no (xL 0) (ki 1)) (sS 3 (xL 0) sEnd)))))
 kSkip)))
 (kReg (sV (oMov (xT 4)) (sV (oBin .add .no (xL 0) (ki 1)) (sS 4 (xL 0) sEnd)))))))))
 (kSeq (kReg (sV (oSlc 3 (xT 0) (some (xT 3)) none none) (sH (oClr [(int .i64 (.ofNat 0)), (str []), nils] (xL 0)) sEnd)))
 (kSeq (kReg (sV (oSlc 3 (xT 0) none (some (xT 3)) none) (sS 2 (xL 0) sEnd)))
 kRet))))))
theorem t107 : FF d107 Tryz.f107 a107 [(.t 2)] := ff Tryz.func107 (by kernel_rfl)
def x107 : XFn := .go a107 2 pd4 [(.t 2)]
def d108 : FD := ⟨108, 1, [2]⟩
def a108 : CodeF := (kSeq (kReg (sS 1 (xK nils) sEnd))
 (kSeq (kRegC (fun k => (sV (oBin .eql .slice (xT 0) (xK nils)) k)) (xL 0) (kSeq (kReg (sS 1 (xK nils) sEnd))
 kRet)
 kSkip)
 (kSeq (kReg (sH (oBsl 163 3 0 [(int .i64 (.ofNat 0)), (str []), nils] []) (sH (oApp 163 3 (xL 0) (xT 0)) (sS 1 (xL 0) sEnd))))
 kRet)))
theorem t108 : FF d108 Tryz.f108 a108 [(.t 1)] := ff Tryz.func108 (by kernel_rfl)
def x108 : XFn := .go a108 1 pd1 [(.t 1)]
def d109 : FD := ⟨109, 2, [3, 2]⟩
def a109 : CodeF := (kSeq (kReg (sH (oBox 163 3 (xT 0)) (sS 3 (xL 0) (sS 2 (xK (bool false)) sEnd))))
 (kSeq (kReg (sV (oFaddr 0 (xT 3)) (sV (oLoad (xL 0)) (sV (oLoad (xT 1)) (sV (oBin .neq .no (xL 1) (xL 0)) (sS 2 (xL 0) sEnd))))))
 kRet))
theorem t109 : FF d109 Tryz.f109 a109 [(.t 2)] := ff Tryz.func109 (by kernel_rfl)
def x109 : XFn := .go a109 2 pd2 [(.t 2)]
def d110 : FD := ⟨110, 1, [2, 16, 17, 18, 15, 4, 5, 30, 31, 32, 29, 8, 6, 9]⟩
def a110 : CodeF := (kSeq (kReg (sH (oAlloc 216 6 [nils, nils, nils, nils, nils, nils]) (sS 1 (xL 0) sEnd)))
 (kSeq (kSeq (kReg (sV (oNilc (xT 0)) (sV (oFaddr 8 (xL 0)) (sV (oLoad (xL 0)) (sC (cFn 171) [(xL 0)] (sC (cFn 170) [(xL 0)] (sS 5 (xL 0) (sV (oLenL (xT 5)) (sS 2 (xL 0) (sS 3 (ki 0) sEnd))))))))))
 (kBlock 0 (kLoop (kSeq (kReg (sV (oBin .lss .no (xT 3) (xT 2)) (sS 4 (xL 0) sEnd)))
 (kSeq (kCond (xT 4) kSkip
 (kExit 0))
 (kSeq (kBlock 1 (kSeq (kReg (sV (oIaddr 1 (xT 5) (xT 3)) (sV (oLoad (xL 0)) (sS 6 (xL 0) sEnd))))
 (kSeq (kReg (sV (oNilc (xT 0)) (sV (oFaddr 8 (xL 0)) (sV (oLoad (xL 0)) (sV (oLook .str nilmap false (xL 0) (xT 6)) (sS 7 (xL 0) sEnd))))))
 (kSeq (kReg (sS 13 (xK nils) sEnd))
 (kSeq (kSeq (kReg (sC (cFn 173) [(xT 7)] (sC (cFn 172) [(xL 0)] (sS 11 (xL 0) (sV (oLenL (xT 11)) (sS 8 (xL 0) (sS 9 (ki 0) sEnd)))))))
 (kBlock 2 (kLoop (kSeq (kReg (sV (oBin .lss .no (xT 9) (xT 8)) (sS 10 (xL 0) sEnd)))
 (kSeq (kCond (xT 10) kSkip
 (kExit 2))
 (kSeq (kBlock 3 (kSeq (kReg (sV (oIaddr 1 (xT 11) (xT 9)) (sV (oLoad (xL 0)) (sS 12 (xL 0) sEnd))))
 (kReg (sV (oMov (xT 13)) (sV (oLook .int nils false (xT 7) (xT 12)) (sC (cFn 28) [(xL 0)] (sV (oBuild [(int .i64 (.ofNat 0)), nils] [(0, 1, (xT 12)), (1, 1, (xL 0))]) (sH (oBsl 273 2 1 [(int .i64 (.ofNat 0)), nils] [(0, 2, (xL 0))]) (sH (oApp 273 2 (xL 4) (xL 0)) (sS 13 (xL 0) sEnd))))))))))
 (kReg (sV (oBin .add .no (xT 9) (ki 1)) (sS 9 (xL 0) sEnd)))))))))
 (kSeq (kReg (sV (oNilc (xT 0)) (sV (oFaddr 0 (xL 0)) (sV (oFaddr 0 (xL 0)) (sV (oLoad (xL 0)) (sH (oBsl 9 1 1 [(str [])] [(0, 1, (xT 6))]) (sH (oApp 9 1 (xL 1) (xL 0)) (sV (oNilc (xT 0)) (sV (oFaddr 0 (xL 0)) (sV (oFaddr 0 (xL 0)) (sH (oStore 1 (xL 0) (xL 3)) sEnd)))))))))))
 (kDraw [(.v (oMov (xT 0)), none), (.v (oMov (xT 0)), none), (.v (oNilc (xL 0)), none), (.v (oFaddr 0 (xL 0)), none), (.v (oFaddr 1 (xL 0)), none), (.v (oLoad (xL 0)), none), (.v (oMov (xT 13)), none), (.c (cFn 174) [(xL 0)], none), (.h (oBsl 267 1 1 [nils] [(0, 1, (xL 0))]), none), (.h (oApp 267 1 (xL 3) (xL 0)), none), (.v (oNilc (xL 9)), none), (.v (oFaddr 0 (xL 0)), none), (.v (oFaddr 1 (xL 0)), none), (.h (oStore 1 (xL 0) (xL 3)), none)] 0 [none, none, none, none, none, none, none, none, none, none, none, none, none, none, none] [(8, 6), (8, 5)])))))))
 (kReg (sV (oBin .add .no (xT 3) (ki 1)) (sS 3 (xL 0) sEnd)))))))))
 (kSeq (kReg (sV (oNilc (xT 0)) (sV (oFaddr 0 (xL 0)) (sS 14 (xL 0) sEnd))))
 (kSeq (kDraw [(.v (oMov (xT 14)), none), (.v (oMov (xT 14)), none), (.v (oMov (xT 14)), none), (.v (oMov (xT 14)), none), (.v (oMov (xT 14)), none), (.v (oMov (xT 14)), none), (.v (oMov (xT 14)), none), (.v (oNilc (xL 0)), none), (.v (oFaddr 0 (xL 0)), none), (.v (oLoad (xL 0)), none), (.c (cFn 175) [(xL 0)], none), (.v (oMov (xT 14)), none), (.v (oNilc (xL 0)), none), (.v (oFaddr 1 (xL 0)), none), (.v (oLoad (xL 0)), none), (.c (cFn 176) [(xL 0)], none), (.v (oMov (xT 14)), none), (.v (oNilc (xL 0)), none), (.v (oFaddr 2 (xL 0)), none), (.v (oLoad (xL 0)), none), (.c (cFn 165) [(xL 0)], none), (.v (oMov (xT 14)), none), (.v (oNilc (xL 0)), none), (.v (oFaddr 3 (xL 0)), none), (.v (oLoad (xL 0)), none), (.c (cFn 177) [(xL 0)], none), (.v (oMov (xT 14)), none), (.v (oNilc (xL 0)), none), (.v (oFaddr 4 (xL 0)), none), (.v (oLoad (xL 0)), none), (.c (cFn 178) [(xL 0)], none), (.v (oMov (xT 14)), none), (.v (oNilc (xL 0)), none), (.v (oFaddr 5 (xL 0)), none), (.v (oLoad (xL 0)), none), (.c (cFn 179) [(xL 0)], none), (.v (oNilc (xL 35)), none), (.v (oFaddr 0 (xL 0)), none), (.h (oStore 1 (xL 0) (xL 27)), none), (.v (oNilc (xL 37)), none), (.v (oFaddr 1 (xL 0)), none), (.h (oStore 1 (xL 0) (xL 25)), none), (.v (oNilc (xL 39)), none), (.v (oFaddr 2 (xL 0)), none), (.h (oStore 1 (xL 0) (xL 23)), none), (.v (oNilc (xL 41)), none), (.v (oFaddr 3 (xL 0)), none), (.h (oStore 1 (xL 0) (xL 21)), none), (.v (oNilc (xL 43)), none), (.v (oFaddr 4 (xL 0)), none), (.h (oStore 1 (xL 0) (xL 19)), none), (.v (oNilc (xL 45)), none), (.v (oFaddr 5 (xL 0)), none), (.h (oStore 1 (xL 0) (xL 17)), none)] 0 [none, none, none, none, none, none, none, none, none, none, none, none, none, none, none] [(39, 43), (34, 43), (34, 38), (29, 43), (29, 38), (29, 33), (24, 43), (24, 38), (24, 33), (24, 28), (19, 43), (19, 38), (19, 33), (19, 28), (19, 23)])
 (kSeq (kReg (sV (oNilc (xT 0)) (sV (oFaddr 0 (xL 0)) (sV (oLoadN 6 (xL 0)) (sH (oStore 6 (xT 1) (xL 0)) sEnd)))))
 kRet)))))
theorem t110 : FF d110 Tryz.f110 a110 [(.cell 1 (some 6))] := ff Tryz.func110 (by kernel_rfl)
def x110 : XFn := .go a110 1 pd14 [(.cell 1 (some 6))]
def d111 : FD := ⟨111, 1, [2]⟩
def a111 : CodeF := (kSeq (kReg (sS 1 (xK nils) sEnd))
 (kSeq (kReg (sV (oLenL (xT 0)) (sV (oLenL (xT 0)) (sV (oSlc 1 (xT 0) none (some (xL 1)) (some (xL 0))) (sS 1 (xL 0) sEnd)))))
 kRet))
theorem t111 : FF d111 Tryz.f111 a111 [(.t 1)] := ff Tryz.func111 (by kernel_rfl)
def x111 : XFn := .go a111 1 pd1 [(.t 1)]
def d112 : FD := ⟨112, 1, [2]⟩
def a112 : CodeF := (kSeq (kReg (sS 1 (xK nils) sEnd))
 (kSeq (kReg (sV (oLenL (xT 0)) (sV (oLenL (xT 0)) (sV (oSlc 6 (xT 0) none (some (xL 1)) (some (xL 0))) (sS 1 (xL 0) sEnd)))))
 kRet))
theorem t112 : FF d112 Tryz.f112 a112 [(.t 1)] := ff Tryz.func112 (by kernel_rfl)
def x112 : XFn := .go a112 1 pd1 [(.t 1)]
def d113 : FD := ⟨113, 1, [2, 1]⟩
def a113 : CodeF := (kSeq (kReg (sH (oBox 229 1 (xT 0)) (sS 2 (xL 0) (sS 1 (xK nilfunc) sEnd))))
 (kSeq (kReg (sV (oMkfn 180 [] [(xT 2)]) (sS 1 (xL 0) sEnd)))
 kRet))
theorem t113 : FF d113 Tryz.f113 a113 [(.t 1)] := ff Tryz.func113 (by kernel_rfl)
def x113 : XFn := .go a113 1 pd2 [(.t 1)]
end
end Go.Proofs.YtobnfiiladkllaaGreatDoor
