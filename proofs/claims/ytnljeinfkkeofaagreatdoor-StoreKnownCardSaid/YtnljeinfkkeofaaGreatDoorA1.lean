import Derived.Test.YtnljeinfkkeofaaGreatDoorP
import Derived.Test.YtnljeinfkkeofaaGreatDoorProg
import Derived.KernelRfl
/- The functions of the program as the interpreter has them; each is the program's, by the kernel. -/
set_option maxRecDepth 1000000
namespace Go.Proofs.YtnljeinfkkeofaaGreatDoor
open Go Go.Ai AVal
noncomputable section
def d59 : FD := ⟨59, 2, [4, 5]⟩
def a59 : CodeF := (kSeq (kReg (sS 2 (xK nils) (sS 3 (ki 0) sEnd)))
 (kSeq (kBlock 0 (kRegC (fun k => (sV (oBin .eql .ptr (xT 0) (xK nilptr)) k)) (xL 0) (kSeq (kReg (sS 2 (xK nils) (sS 3 (ki 2) sEnd)))
 kRet)
 (kRegC (fun k => (sC (cFn 32) [(xT 0)] k)) (xL 0) (kSeq (kReg (sS 2 (xK nils) (sS 3 (ki 14) sEnd)))
 kRet)
 (kRegC (fun k => (sC (cFn 94) [(xT 1)] (sV (oUn .not (xL 0)) k))) (xL 0) (kSeq (kReg (sS 2 (xK nils) (sS 3 (ki 1) sEnd)))
 kRet)
 (kRegC (fun k => (sV (oNilc (xT 0)) (sV (oFaddr 0 (xL 0)) (sV (oLoad (xL 0)) (sV (oLook .str nilptr false (xL 0) (xT 1)) (sV (oBin .eql .ptr (xL 0) (xK nilptr)) k)))))) (xL 0) (kSeq (kReg (sS 2 (xK nils) (sS 3 (ki 10) sEnd)))
 kRet)
 kSkip)))))
 (kSeq (kReg (sV (oNilc (xT 0)) (sV (oFaddr 0 (xL 0)) (sV (oLoad (xL 0)) (sV (oLook .str nilptr false (xL 0) (xT 1)) (sV (oNilc (xL 0)) (sV (oFaddr 0 (xL 0)) (sV (oLoad (xL 0)) (sC (cFn 116) [(xL 0)] (sC (cFn 132) [(xL 0)] (sS 2 (xL 0) (sS 3 (ki 0) sEnd))))))))))))
 kRet)))
theorem t59 : FF d59 Tryz.f59 a59 [(.t 2), (.t 3)] := ff Tryz.func59 (by kernel_rfl)
def x59 : XFn := .go a59 2 pd2 [(.t 2), (.t 3)]
def d60 : FD := ⟨60, 1, [2, 3, 4, 5, 6, 7, 8, 10, 9]⟩
def a60 : CodeF := (kSeq (kReg (sH (oAlloc 127 5 [(int .i64 (.ofNat 0)), (int .u64 (.ofNat 0)), nils, nils, nils]) (sS 1 (xL 0) (sS 2 (ki 0) sEnd))))
 (kSeq (kReg (sC (cFn 108) [(xK (int .u8 (.ofNat 2))), (xT 0)] (sV (oExt 0 (xL 0)) (sV (oExt 1 (xL 1)) (sS 3 (xL 1) (sS 2 (xL 0) sEnd))))))
 (kSeq (kRegC (fun k => (sV (oBin .neq .no (xT 2) (ki 0)) (sG (xL 0) false (sV (oMov (xT 3))) (sG (xL 1) false (sV (oLenL (xL 0))) (sG (xL 2) false (sV (oBin .lss .no (xL 0) (ki 2))) (sV (oPick (xL 3) (xK (bool true)) (xL 0)) k)))))) (xL 0) (kSeq (kReg (sV (oLoadN 5 (xT 1)) (sH (oStore 5 (xT 1) (xL 0)) (sS 2 (ki 20) sEnd))))
 kRet)
 kSkip)
 (kSeq (kReg (sV (oIaddr 1 (xT 3) (ki 0)) (sV (oLoad (xL 0)) (sC (cFn 109) [(xL 0)] (sS 4 (xL 0) sEnd)))))
 (kSeq (kReg (sC (cFn 110) [(xT 4), (ki 1099511627776)] (sC (cFn 133) [(xT 4)] (sV (oFaddr 0 (xT 1)) (sH (oStore 1 (xL 0) (xL 2)) (sV (oFaddr 1 (xT 1)) (sH (oStore 1 (xL 0) (xL 3)) sEnd)))))))
 (kSeq (kReg (sV (oLenL (xT 3)) (sC (cFn 110) [(xT 4), (xL 0)] (sS 5 (xL 0) sEnd))))
 (kSeq (kReg (sV (oIaddr 1 (xT 3) (ki 1)) (sV (oLoad (xL 0)) (sC (cFn 134) [(xL 0)] (sV (oExt 0 (xL 0)) (sV (oExt 1 (xL 1)) (sH (oAlloc 30 1 [nils]) (sS 6 (xL 0) (sH (oStore 1 (xT 6) (xL 2)) (sS 2 (xL 2) sEnd))))))))))
 (kSeq (kRegC (fun k => (sC (cFn 135) [(xT 4)] (sV (oBin .neq .no (xL 0) (ki 0)) (sG (xL 0) false (sV (oMov (xT 2))) (sG (xL 1) false (sV (oBin .neq .no (xL 0) (ki 0))) (sV (oPick (xL 2) (xK (bool true)) (xL 0)) (sG (xL 0) false (sV (oMov (xT 3))) (sG (xL 1) false (sV (oLenL (xL 0))) (sG (xL 2) false (sV (oMov (xT 5))) (sG (xL 3) false (sV (oBin .mul .no (ki 2) (xL 0))) (sG (xL 4) false (sV (oBin .add .no (ki 2) (xL 0))) (sG (xL 5) false (sV (oBin .neq .no (xL 3) (xL 0))) (sV (oPick (xL 6) (xK (bool true)) (xL 0)) k))))))))))))) (xL 0) (kSeq (kReg (sV (oLoadN 5 (xT 1)) (sH (oStore 5 (xT 1) (xL 0)) (sS 2 (ki 20) sEnd))))
 kRet)
 kSkip)
 (kSeq (kReg (sV (oLoadN 1 (xT 6)) (sV (oFaddr 2 (xT 1)) (sH (oStore 1 (xL 0) (xL 1)) sEnd))))
 (kSeq (kSeq (kReg (sS 7 (ki 2) sEnd))
 (kBlock 0 (kLoop (kSeq (kRegC (fun k => (sV (oLenL (xT 3)) (sV (oBin .lss .no (xT 7) (xL 0)) k))) (xL 0) kSkip
 (kExit 0))
 (kSeq (kBlock 1 (kSeq (kReg (sV (oBin .add .no (xT 7) (ki 1)) (sV (oIaddr 1 (xT 3) (xL 0)) (sV (oLoad (xL 0)) (sC (cFn 136) [(xL 0)] (sV (oExt 0 (xL 0)) (sV (oExt 1 (xL 1)) (sS 9 (xL 1) (sS 8 (xL 0) sEnd)))))))))
 (kSeq (kRegC (fun k => (sV (oBin .neq .no (xT 8) (ki 0)) k)) (xL 0) (kSeq (kReg (sV (oLoadN 5 (xT 1)) (sH (oStore 5 (xT 1) (xL 0)) (sS 2 (ki 20) sEnd))))
 kRet)
 kSkip)
 (kSeq (kDraw [(.v (oFaddr 3 (xT 1)), none), (.v (oLoad (xL 0)), none), (.v (oMov (xT 3)), none), (.v (oMov (xT 7)), none), (.v (oIaddr 1 (xL 1) (xL 0)), none), (.v (oLoad (xL 0)), none), (.v (oB2s (xL 0)), none), (.h (oBsl 9 1 1 [(str [])] [(0, 1, (xL 0))]), none), (.h (oApp 9 1 (xL 6) (xL 0)), none), (.v (oFaddr 3 (xT 1)), none), (.h (oStore 1 (xL 0) (xL 1)), none)] 0 [none, none, none, none, none, none, none, none, none, none] [(9, 3)])
 (kReg (sV (oFaddr 4 (xT 1)) (sV (oLoad (xL 0)) (sH (oBsl 38 1 1 [nilptr] [(0, 1, (xT 9))]) (sH (oApp 38 1 (xL 1) (xL 0)) (sV (oFaddr 4 (xT 1)) (sH (oStore 1 (xL 0) (xL 1)) sEnd)))))))))))
 (kReg (sV (oMov (xT 7)) (sV (oBin .add .no (xL 0) (ki 2)) (sS 7 (xL 0) sEnd)))))))))
 (kSeq (kReg (sV (oLoadN 5 (xT 1)) (sH (oStore 5 (xT 1) (xL 0)) (sS 2 (ki 0) sEnd))))
 kRet)))))))))))
theorem t60 : FF d60 Tryz.f60 a60 [(.cell 1 (some 5)), (.t 2)] := ff Tryz.func60 (by kernel_rfl)
def x60 : XFn := .go a60 1 pd9 [(.cell 1 (some 5)), (.t 2)]
def d61 : FD := ⟨61, 2, [4, 3, 2]⟩
def a61 : CodeF := (kSeq (kReg (sH (oBox 30 1 (xT 0)) (sS 4 (xL 0) (sH (oBox 30 1 (xT 1)) (sS 3 (xL 0) (sS 2 (xK (bool false)) sEnd))))))
 (kSeq (kReg (sV (oFaddr 0 (xT 4)) (sV (oLoad (xL 0)) (sV (oFaddr 0 (xT 3)) (sV (oLoad (xL 0)) (sC (cFn 137) [(xL 2), (xL 0), (xK (.func (.func 138) [] []))] (sS 2 (xL 0) sEnd)))))))
 kRet))
theorem t61 : FF d61 Tryz.f61 a61 [(.t 2)] := ff Tryz.func61 (by kernel_rfl)
def x61 : XFn := .go a61 2 pd3 [(.t 2)]
def d62 : FD := ⟨62, 2, [4, 5, 2, 6, 25, 26, 27, 7, 8, 9]⟩
def a62 : CodeF := (kSeq (kReg (sH (oBox 30 1 (xT 0)) (sS 4 (xL 0) (sH (oAlloc 37 1 [nilptr]) (sS 2 (xL 0) (sH (oAlloc 25 1 [(int .i64 (.ofNat 0))]) (sS 3 (xL 0) sEnd)))))))
 (kSeq (kBlock 0 (kRegC (fun k => (sV (oLoadN 1 (xT 4)) (sC (cFn 140) [(xL 0)] (sV (oBin .neq .no (xL 0) (ki 0)) k)))) (xL 0) (kSeq (kReg (sH (oStore 1 (xT 2) (xK nilptr)) (sH (oStore 1 (xT 3) (ki 80)) sEnd)))
 kRet)
 (kRegC (fun k => (sV (oLenL (xT 1)) (sV (oBin .gtr .no (xL 0) (ki 16777216)) k))) (xL 0) (kSeq (kReg (sH (oStore 1 (xT 2) (xK nilptr)) (sH (oStore 1 (xT 3) (ki 3)) sEnd)))
 kRet)
 kSkip)))
 (kSeq (kReg (sDef (xK (.func (.func 51) [] [])) [(xT 2), (xT 3)] sEnd))
 (kSeq (kReg (sV (oLoadN 1 (xT 4)) (sC (cFn 54) [(xL 0), (xT 1)] (sH (oStore 1 (xT 2) (xL 0)) sEnd))))
 (kSeq (kReg (sV (oLoad (xT 2)) (sC (cFn 73) [(xL 0)] (sH (oMksl 86 2 [(int .u64 (.ofNat 0)), nils] (xL 0) (xL 0)) (sS 5 (xL 0) sEnd)))))
 (kSeq (kSeq (kReg (sV (oLenL (xT 5)) (sS 6 (xL 0) (sS 7 (ki 0) sEnd))))
 (kBlock 1 (kLoop (kSeq (kReg (sV (oBin .lss .no (xT 7) (xT 6)) (sS 8 (xL 0) sEnd)))
 (kSeq (kCond (xT 8) kSkip
 (kExit 1))
 (kSeq (kBlock 2 (kSeq (kReg (sS 9 (xT 7) sEnd))
 (kReg (sV (oLoad (xT 2)) (sC (cFn 141) [(xL 0), (xT 9)] (sV (oIaddr 2 (xT 5) (xT 9)) (sH (oStore 2 (xL 0) (xL 1)) sEnd)))))))
 (kReg (sV (oBin .add .no (xT 7) (ki 1)) (sS 7 (xL 0) sEnd)))))))))
 (kSeq (kReg (sV (oLoadN 1 (xT 4)) (sC (cFn 21) [(xL 0), (xT 5)] (sV (oExt 0 (xL 0)) (sV (oExt 1 (xL 1)) (sS 10 (xL 1) (sS 11 (xL 0) sEnd)))))))
 (kSeq (kRegC (fun k => (sV (oBin .neq .no (xT 11) (ki 0)) (sG (xL 0) false (sV (oMov (xT 10))) (sG (xL 1) false (sV (oNilc (xL 0))) (sG (xL 2) false (sV (oFaddr 1 (xL 0))) (sG (xL 3) false (sV (oLoad (xL 0))) (sG (xL 4) false (sV (oMov (xT 1))) (sG (xL 5) false (sC (cFn 142) [(xL 1), (xL 0)]) (sG (xL 6) false (sV (oUn .not (xL 0))) (sV (oPick (xL 7) (xK (bool true)) (xL 0)) k)))))))))) (xL 0) (kSeq (kReg (sH (oStore 1 (xT 2) (xK nilptr)) (sH (oStore 1 (xT 3) (ki 20)) sEnd)))
 kRet)
 kSkip)
 (kSeq (kReg (sV (oLoad (xT 2)) (sH (oStore 1 (xT 2) (xL 0)) (sH (oStore 1 (xT 3) (ki 0)) sEnd))))
 kRet)))))))))
theorem t62 : FF d62 Tryz.f62 a62 [(.cell 2 none), (.cell 3 none)] := ff Tryz.func62 (by kernel_rfl)
def x62 (l : List Ent) : XFn := .memo l a62 2 pd10 [(.cell 2 none), (.cell 3 none)]
def d63 : FD := ⟨63, 1, [2]⟩
def a63 : CodeF := (kSeq (kReg (sS 1 (xK nilmap) sEnd))
 (kSeq (kRegC (fun k => (sV (oBin .eql .map (xT 0) (xK nilmap)) k)) (xL 0) (kSeq (kReg (sS 1 (xK nilmap) sEnd))
 kRet)
 kSkip)
 (kSeq (kReg (sV (oMkif 57 (xT 0)) (sC (cFn 143) [(xL 0)] (sV (oTass1 57 (xL 0)) (sS 1 (xL 0) sEnd)))))
 kRet)))
theorem t63 : FF d63 Tryz.f63 a63 [(.t 1)] := ff Tryz.func63 (by kernel_rfl)
def x63 : XFn := .go a63 1 pd1 [(.t 1)]
def d64 : FD := ⟨64, 2, [4]⟩
def a64 : CodeF := (kSeq (kReg (sS 2 (xK (bool false)) sEnd))
 (kSeq (kReg (sC (cFn 144) [(xT 0), (xT 1)] (sV (oBin .geq .no (xL 0) (ki 0)) (sS 2 (xL 0) sEnd))))
 kRet))
theorem t64 : FF d64 Tryz.f64 a64 [(.t 2)] := ff Tryz.func64 (by kernel_rfl)
def x64 : XFn := .go a64 2 pd1 [(.t 2)]
def d65 : FD := ⟨65, 1, [2]⟩
def a65 : CodeF := (kSeq (kReg (sS 1 (xK (str [])) sEnd))
 (kSeq (kReg (sC (cFn 145) [(xT 0)] (sS 1 (xL 0) sEnd)))
 kRet))
theorem t65 : FF d65 Tryz.f65 a65 [(.t 1)] := ff Tryz.func65 (by kernel_rfl)
def x65 : XFn := .go a65 1 pd1 [(.t 1)]
def d66 : FD := ⟨66, 2, [4, 11, 6, 5, 42, 43, 7, 8, 9, 10]⟩
def a66 : CodeF := (kSeq (kReg (sS 2 (xK (str [])) sEnd))
 (kSeq (kSeq (kReg (sS 3 (xT 1) sEnd))
 (kBlock 0 (kRegC (fun k => (sV (oBin .eql .no (xT 3) (ki 0)) k)) (xL 0) (kSeq (kReg (sS 2 (xK (str [])) sEnd))
 kRet)
 (kRegC (fun k => (sV (oBin .eql .no (xT 3) (ki 1)) k)) (xL 0) (kSeq (kReg (sS 2 (xT 0) sEnd))
 kRet)
 kSkip))))
 (kSeq (kRegC (fun k => (sV (oBin .lss .no (xT 1) (ki 0)) k)) (xL 0) (kReg (sV (oMkif 9 (xK (str [115, 116, 114, 105, 110, 103, 115, 58, 32, 110, 101, 103, 97, 116, 105, 118, 101, 32, 82, 101, 112, 101, 97, 116, 32, 99, 111, 117, 110, 116]))) (sPan (xL 0))))
 kSkip)
 (kSeq (kReg (sV (oLenS (xT 0)) (sV (oConv .u64 (xL 0)) (sV (oConv .u64 (xT 1)) (sC (cFn 146) [(xL 1), (xL 0)] (sV (oExt 0 (xL 0)) (sV (oExt 1 (xL 1)) (sS 5 (xL 1) (sS 4 (xL 0) sEnd)))))))))
 (kSeq (kRegC (fun k => (sV (oBin .gtr .no (xT 5) (xK (int .u64 (.ofNat 0)))) (sG (xL 0) false (sV (oMov (xT 4))) (sG (xL 1) false (sV (oBin .gtr .no (xL 0) (xK (int .u64 (.ofNat 9223372036854775807))))) (sV (oPick (xL 2) (xK (bool true)) (xL 0)) k))))) (xL 0) (kReg (sV (oMkif 9 (xK (str [115, 116, 114, 105, 110, 103, 115, 58, 32, 82, 101, 112, 101, 97, 116, 32, 111, 117, 116, 112, 117, 116, 32, 108, 101, 110, 103, 116, 104, 32, 111, 118, 101, 114, 102, 108, 111, 119]))) (sPan (xL 0))))
 kSkip)
 (kSeq (kReg (sV (oConv .i64 (xT 4)) (sS 8 (xL 0) sEnd)))
 (kSeq (kRegC (fun k => (sV (oLenS (xT 0)) (sV (oBin .eql .no (xL 0) (ki 0)) k))) (xL 0) (kSeq (kReg (sS 2 (xK (str [])) sEnd))
 kRet)
 kSkip)
 (kSeq (kSeq (kReg (sV (oIdx (xT 0) (ki 0)) (sS 6 (xL 0) sEnd)))
 (kBlock 1 (kSeq (kRegC (fun k => (sV (oBin .eql .no (xT 6) (xK (int .u8 (.ofNat 32)))) (sS 7 (xL 0) k))) (xT 7) kSkip
 (kRegC (fun k => (sV (oBin .eql .no (xT 6) (xK (int .u8 (.ofNat 45)))) (sS 7 (xL 0) k))) (xT 7) kSkip
 (kRegC (fun k => (sV (oBin .eql .no (xT 6) (xK (int .u8 (.ofNat 48)))) (sS 7 (xL 0) k))) (xT 7) kSkip
 (kRegC (fun k => (sV (oBin .eql .no (xT 6) (xK (int .u8 (.ofNat 61)))) (sS 7 (xL 0) k))) (xT 7) kSkip
 (kReg (sV (oBin .eql .no (xT 6) (xK (int .u8 (.ofNat 9)))) (sS 7 (xL 0) sEnd)))))))
 (kCond (xT 7) (kBlock 2 (kRegC (fun k => (sV (oBin .leq .no (xT 8) (ki 128)) (sG (xL 0) true (sV (oMov (xT 0))) (sG (xL 1) true (sC (cFn 147) [(xK (str [32, 32, 32, 32, 32, 32, 32, 32, 32, 32, 32, 32, 32, 32, 32, 32, 32, 32, 32, 32, 32, 32, 32, 32, 32, 32, 32, 32, 32, 32, 32, 32, 32, 32, 32, 32, 32, 32, 32, 32, 32, 32, 32, 32, 32, 32, 32, 32, 32, 32, 32, 32, 32, 32, 32, 32, 32, 32, 32, 32, 32, 32, 32, 32, 32, 32, 32, 32, 32, 32, 32, 32, 32, 32, 32, 32, 32, 32, 32, 32, 32, 32, 32, 32, 32, 32, 32, 32, 32, 32, 32, 32, 32, 32, 32, 32, 32, 32, 32, 32, 32, 32, 32, 32, 32, 32, 32, 32, 32, 32, 32, 32, 32, 32, 32, 32, 32, 32, 32, 32, 32, 32, 32, 32, 32, 32, 32, 32])), (xL 0)]) (sV (oPick (xL 2) (xL 0) (xK (bool false))) k))))) (xL 0) (kSeq (kReg (sV (oSlcs (xK (str [32, 32, 32, 32, 32, 32, 32, 32, 32, 32, 32, 32, 32, 32, 32, 32, 32, 32, 32, 32, 32, 32, 32, 32, 32, 32, 32, 32, 32, 32, 32, 32, 32, 32, 32, 32, 32, 32, 32, 32, 32, 32, 32, 32, 32, 32, 32, 32, 32, 32, 32, 32, 32, 32, 32, 32, 32, 32, 32, 32, 32, 32, 32, 32, 32, 32, 32, 32, 32, 32, 32, 32, 32, 32, 32, 32, 32, 32, 32, 32, 32, 32, 32, 32, 32, 32, 32, 32, 32, 32, 32, 32, 32, 32, 32, 32, 32, 32, 32, 32, 32, 32, 32, 32, 32, 32, 32, 32, 32, 32, 32, 32, 32, 32, 32, 32, 32, 32, 32, 32, 32, 32, 32, 32, 32, 32, 32, 32])) none (some (xT 8))) (sS 2 (xL 0) sEnd)))
 kRet)
 (kRegC (fun k => (sV (oBin .leq .no (xT 8) (ki 128)) (sG (xL 0) true (sV (oMov (xT 0))) (sG (xL 1) true (sC (cFn 147) [(xK (str [45, 45, 45, 45, 45, 45, 45, 45, 45, 45, 45, 45, 45, 45, 45, 45, 45, 45, 45, 45, 45, 45, 45, 45, 45, 45, 45, 45, 45, 45, 45, 45, 45, 45, 45, 45, 45, 45, 45, 45, 45, 45, 45, 45, 45, 45, 45, 45, 45, 45, 45, 45, 45, 45, 45, 45, 45, 45, 45, 45, 45, 45, 45, 45, 45, 45, 45, 45, 45, 45, 45, 45, 45, 45, 45, 45, 45, 45, 45, 45, 45, 45, 45, 45, 45, 45, 45, 45, 45, 45, 45, 45, 45, 45, 45, 45, 45, 45, 45, 45, 45, 45, 45, 45, 45, 45, 45, 45, 45, 45, 45, 45, 45, 45, 45, 45, 45, 45, 45, 45, 45, 45, 45, 45, 45, 45, 45, 45])), (xL 0)]) (sV (oPick (xL 2) (xL 0) (xK (bool false))) k))))) (xL 0) (kSeq (kReg (sV (oSlcs (xK (str [45, 45, 45, 45, 45, 45, 45, 45, 45, 45, 45, 45, 45, 45, 45, 45, 45, 45, 45, 45, 45, 45, 45, 45, 45, 45, 45, 45, 45, 45, 45, 45, 45, 45, 45, 45, 45, 45, 45, 45, 45, 45, 45, 45, 45, 45, 45, 45, 45, 45, 45, 45, 45, 45, 45, 45, 45, 45, 45, 45, 45, 45, 45, 45, 45, 45, 45, 45, 45, 45, 45, 45, 45, 45, 45, 45, 45, 45, 45, 45, 45, 45, 45, 45, 45, 45, 45, 45, 45, 45, 45, 45, 45, 45, 45, 45, 45, 45, 45, 45, 45, 45, 45, 45, 45, 45, 45, 45, 45, 45, 45, 45, 45, 45, 45, 45, 45, 45, 45, 45, 45, 45, 45, 45, 45, 45, 45, 45])) none (some (xT 8))) (sS 2 (xL 0) sEnd)))
 kRet)
 (kRegC (fun k => (sV (oBin .leq .no (xT 8) (ki 64)) (sG (xL 0) true (sV (oMov (xT 0))) (sG (xL 1) true (sC (cFn 147) [(xK (str [48, 48, 48, 48, 48, 48, 48, 48, 48, 48, 48, 48, 48, 48, 48, 48, 48, 48, 48, 48, 48, 48, 48, 48, 48, 48, 48, 48, 48, 48, 48, 48, 48, 48, 48, 48, 48, 48, 48, 48, 48, 48, 48, 48, 48, 48, 48, 48, 48, 48, 48, 48, 48, 48, 48, 48, 48, 48, 48, 48, 48, 48, 48, 48])), (xL 0)]) (sV (oPick (xL 2) (xL 0) (xK (bool false))) k))))) (xL 0) (kSeq (kReg (sV (oSlcs (xK (str [48, 48, 48, 48, 48, 48, 48, 48, 48, 48, 48, 48, 48, 48, 48, 48, 48, 48, 48, 48, 48, 48, 48, 48, 48, 48, 48, 48, 48, 48, 48, 48, 48, 48, 48, 48, 48, 48, 48, 48, 48, 48, 48, 48, 48, 48, 48, 48, 48, 48, 48, 48, 48, 48, 48, 48, 48, 48, 48, 48, 48, 48, 48, 48])) none (some (xT 8))) (sS 2 (xL 0) sEnd)))
 kRet)
 (kRegC (fun k => (sV (oBin .leq .no (xT 8) (ki 128)) (sG (xL 0) true (sV (oMov (xT 0))) (sG (xL 1) true (sC (cFn 147) [(xK (str [61, 61, 61, 61, 61, 61, 61, 61, 61, 61, 61, 61, 61, 61, 61, 61, 61, 61, 61, 61, 61, 61, 61, 61, 61, 61, 61, 61, 61, 61, 61, 61, 61, 61, 61, 61, 61, 61, 61, 61, 61, 61, 61, 61, 61, 61, 61, 61, 61, 61, 61, 61, 61, 61, 61, 61, 61, 61, 61, 61, 61, 61, 61, 61, 61, 61, 61, 61, 61, 61, 61, 61, 61, 61, 61, 61, 61, 61, 61, 61, 61, 61, 61, 61, 61, 61, 61, 61, 61, 61, 61, 61, 61, 61, 61, 61, 61, 61, 61, 61, 61, 61, 61, 61, 61, 61, 61, 61, 61, 61, 61, 61, 61, 61, 61, 61, 61, 61, 61, 61, 61, 61, 61, 61, 61, 61, 61, 61])), (xL 0)]) (sV (oPick (xL 2) (xL 0) (xK (bool false))) k))))) (xL 0) (kSeq (kReg (sV (oSlcs (xK (str [61, 61, 61, 61, 61, 61, 61, 61, 61, 61, 61, 61, 61, 61, 61, 61, 61, 61, 61, 61, 61, 61, 61, 61, 61, 61, 61, 61, 61, 61, 61, 61, 61, 61, 61, 61, 61, 61, 61, 61, 61, 61, 61, 61, 61, 61, 61, 61, 61, 61, 61, 61, 61, 61, 61, 61, 61, 61, 61, 61, 61, 61, 61, 61, 61, 61, 61, 61, 61, 61, 61, 61, 61, 61, 61, 61, 61, 61, 61, 61, 61, 61, 61, 61, 61, 61, 61, 61, 61, 61, 61, 61, 61, 61, 61, 61, 61, 61, 61, 61, 61, 61, 61, 61, 61, 61, 61, 61, 61, 61, 61, 61, 61, 61, 61, 61, 61, 61, 61, 61, 61, 61, 61, 61, 61, 61, 61, 61])) none (some (xT 8))) (sS 2 (xL 0) sEnd)))
 kRet)
 (kRegC (fun k => (sV (oBin .leq .no (xT 8) (ki 64)) (sG (xL 0) true (sV (oMov (xT 0))) (sG (xL 1) true (sC (cFn 147) [(xK (str [9, 9, 9, 9, 9, 9, 9, 9, 9, 9, 9, 9, 9, 9, 9, 9, 9, 9, 9, 9, 9, 9, 9, 9, 9, 9, 9, 9, 9, 9, 9, 9, 9, 9, 9, 9, 9, 9, 9, 9, 9, 9, 9, 9, 9, 9, 9, 9, 9, 9, 9, 9, 9, 9, 9, 9, 9, 9, 9, 9, 9, 9, 9, 9])), (xL 0)]) (sV (oPick (xL 2) (xL 0) (xK (bool false))) k))))) (xL 0) (kSeq (kReg (sV (oSlcs (xK (str [9, 9, 9, 9, 9, 9, 9, 9, 9, 9, 9, 9, 9, 9, 9, 9, 9, 9, 9, 9, 9, 9, 9, 9, 9, 9, 9, 9, 9, 9, 9, 9, 9, 9, 9, 9, 9, 9, 9, 9, 9, 9, 9, 9, 9, 9, 9, 9, 9, 9, 9, 9, 9, 9, 9, 9, 9, 9, 9, 9, 9, 9, 9, 9])) none (some (xT 8))) (sS 2 (xL 0) sEnd)))
 kRet)
 kSkip))))))
 kSkip))))
 (kSeq (kReg (sS 9 (xT 8) sEnd))
 (kSeq (kRegC (fun k => (sV (oBin .gtr .no (xT 8) (ki 8192)) k)) (xL 0) (kSeq (kReg (sV (oLenS (xT 0)) (sV (oBin .quo .no (ki 8192) (xL 0)) (sV (oLenS (xT 0)) (sV (oBin .mul .no (xL 1) (xL 0)) (sS 9 (xL 0) sEnd))))))
 (kRegC (fun k => (sV (oBin .eql .no (xT 9) (ki 0)) k)) (xL 0) (kReg (sV (oLenS (xT 0)) (sS 9 (xL 0) sEnd)))
 kSkip))
 kSkip)
 (kSeq (kReg (sH (oAlloc 233 2 [nilptr, nils]) (sS 10 (xL 0) sEnd)))
 (kSeq (kReg (sC (cFn 148) [(xT 10), (xT 8)] sEnd))
 (kSeq (kReg (sC (cFn 149) [(xT 10), (xT 0)] sEnd))
 (kSeq (kBlock 3 (kLoop (kSeq (kRegC (fun k => (sC (cFn 150) [(xT 10)] (sV (oBin .lss .no (xL 0) (xT 8)) k))) (xL 0) kSkip
 (kExit 3))
 (kBlock 4 (kSeq (kReg (sC (cFn 150) [(xT 10)] (sV (oBin .sub .no (xT 8) (xL 0)) (sC (cFn 150) [(xT 10)] (sV (oMm false (xL 1) [(xL 0), (xT 9)]) (sS 11 (xL 0) sEnd))))))
 (kReg (sC (cFn 151) [(xT 10)] (sV (oSlcs (xL 0) none (some (xT 11))) (sC (cFn 149) [(xT 10), (xL 0)] sEnd)))))))))
 (kSeq (kReg (sC (cFn 151) [(xT 10)] (sS 2 (xL 0) sEnd)))
 kRet)))))))))))))))
theorem t66 : FF d66 Tryz.f66 a66 [(.t 2)] := ff Tryz.func66 (by kernel_rfl)
def x66 : XFn := .go a66 2 pd10 [(.t 2)]
def d67 : FD := ⟨67, 4, [10, 8, 12, 11, 9, 87, 13, 15, 14, 17, 16, 18]⟩
def a67 : CodeF := (kSeq (kReg (sS 5 (xK (bool true)) sEnd))
 (kSeq (kReg (sS 8 (xK (bool true)) sEnd))
 (kBlock 0 (kLoop (kBlock 1 (kSeq (kReg (sV (oBin .sub .no (xT 2) (xT 1)) (sS 4 (xL 0) sEnd)))
 (kSeq (kRegC (fun k => (sV (oBin .leq .no (xT 4) (ki 12)) k)) (xL 0) (kSeq (kReg (sC (cFn 152) [(xT 0), (xT 1), (xT 2)] sEnd))
 kRet)
 kSkip)
 (kSeq (kRegC (fun k => (sV (oBin .eql .no (xT 3) (ki 0)) k)) (xL 0) (kSeq (kReg (sC (cFn 153) [(xT 0), (xT 1), (xT 2)] sEnd))
 kRet)
 kSkip)
 (kSeq (kRegC (fun k => (sV (oUn .not (xT 5)) k)) (xL 0) (kSeq (kReg (sC (cFn 154) [(xT 0), (xT 1), (xT 2)] sEnd))
 (kReg (sV (oMov (xT 3)) (sV (oBin .sub .no (xL 0) (ki 1)) (sS 3 (xL 0) sEnd)))))
 kSkip)
 (kSeq (kReg (sC (cFn 155) [(xT 0), (xT 1), (xT 2)] (sV (oExt 0 (xL 0)) (sV (oExt 1 (xL 1)) (sS 7 (xL 1) (sS 6 (xL 0) sEnd))))))
 (kSeq (kRegC (fun k => (sV (oBin .eql .no (xT 6) (ki 2)) k)) (xL 0) (kSeq (kReg (sC (cFn 156) [(xT 0), (xT 1), (xT 2)] sEnd))
 (kSeq (kReg (sV (oBin .sub .no (xT 2) (ki 1)) (sV (oMov (xT 7)) (sV (oBin .sub .no (xL 0) (xT 1)) (sV (oBin .sub .no (xL 2) (xL 0)) (sS 7 (xL 0) sEnd))))))
 (kReg (sS 6 (ki 1) sEnd))))
 kSkip)
 (kSeq (kRegC (fun k => (sG (xT 5) true (sV (oMov (xT 8))) (sV (oPick (xT 5) (xL 0) (xK (bool false))) (sG (xL 0) true (sV (oMov (xT 6))) (sG (xL 1) true (sV (oBin .eql .no (xL 0) (ki 1))) (sV (oPick (xL 2) (xL 0) (xK (bool false))) k)))))) (xL 0) (kRegC (fun k => (sC (cFn 157) [(xT 0), (xT 1), (xT 2)] k)) (xL 0) kRet
 kSkip)
 kSkip)
 (kSeq (kSeq (kDraw [(.v (oMov (xT 1)), none), (.v (oBin .gtr .no (xL 0) (ki 0)), none), (.v (oMov (xL 0)), none), (.v (oMov (xT 0)), (some ((xL 0), true))), (.v (oMov (xT 1)), (some ((xL 1), true))), (.v (oBin .sub .no (xL 0) (ki 1)), (some ((xL 2), true))), (.v (oIaddr 1 (xL 2) (xL 0)), (some ((xL 3), true))), (.v (oLoad (xL 0)), (some ((xL 4), true))), (.v (oMov (xT 0)), (some ((xL 5), true))), (.v (oMov (xT 7)), (some ((xL 6), true))), (.v (oIaddr 1 (xL 1) (xL 0)), (some ((xL 7), true))), (.v (oLoad (xL 0)), (some ((xL 8), true))), (.c (cFn 158) [(xL 4), (xL 0)], (some ((xL 9), true))), (.v (oUn .not (xL 0)), (some ((xL 10), true))), (.v (oPick (xL 11) (xL 0) (xK (bool false))), none)] 0 [none, none, none, none, none, none, none, none, none, (some 0), none, none, none, none, none, none] [])
 (kCond (xT 9) (kSeq (kReg (sC (cFn 159) [(xT 0), (xT 1), (xT 2), (xT 7)] (sS 10 (xL 0) sEnd)))
 (kSeq (kReg (sS 1 (xT 10) sEnd))
 (kExit 1)))
 kSkip))
 (kSeq (kReg (sC (cFn 160) [(xT 0), (xT 1), (xT 2), (xT 7)] (sV (oExt 0 (xL 0)) (sV (oExt 1 (xL 1)) (sS 12 (xL 1) (sS 11 (xL 0) sEnd))))))
 (kSeq (kReg (sS 8 (xT 11) sEnd))
 (kSeq (kReg (sV (oBin .sub .no (xT 12) (xT 1)) (sV (oBin .sub .no (xT 2) (xT 12)) (sS 14 (xL 1) (sS 13 (xL 0) sEnd)))))
 (kSeq (kReg (sV (oBin .quo .no (xT 4) (ki 8)) (sS 15 (xL 0) sEnd)))
 (kRegC (fun k => (sV (oBin .lss .no (xT 14) (xT 13)) k)) (xL 0) (kSeq (kReg (sV (oBin .geq .no (xT 14) (xT 15)) (sS 5 (xL 0) sEnd)))
 (kSeq (kReg (sC (cFn 67) [(xT 0), (xT 1), (xT 12), (xT 3)] sEnd))
 (kReg (sV (oBin .add .no (xT 12) (ki 1)) (sS 1 (xL 0) sEnd)))))
 (kSeq (kReg (sV (oBin .geq .no (xT 13) (xT 15)) (sS 5 (xL 0) sEnd)))
 (kSeq (kReg (sV (oBin .add .no (xT 12) (ki 1)) (sC (cFn 67) [(xT 0), (xL 0), (xT 2), (xT 3)] sEnd)))
 (kReg (sS 2 (xT 12) sEnd))))))))))))))))))))))
theorem t67 : FF d67 Tryz.f67 a67 [] := ff Tryz.func67 (by kernel_rfl)
def x67 : XFn := .go a67 4 pd12 []
def d68 : FD := ⟨68, 1, [2]⟩
def a68 : CodeF := (kSeq (kReg (sS 1 (ki 0) sEnd))
 (kSeq (kCond (xK (bool false)) (kSeq (kReg (sV (oConv .u32 (xT 0)) (sC (cFn 161) [(xL 0)] (sS 1 (xL 0) sEnd))))
 kRet)
 kSkip)
 (kSeq (kReg (sC (cFn 162) [(xT 0)] (sS 1 (xL 0) sEnd)))
 kRet)))
theorem t68 : FF d68 Tryz.f68 a68 [(.t 1)] := ff Tryz.func68 (by kernel_rfl)
def x68 : XFn := .go a68 1 pd1 [(.t 1)]
def d69 : FD := ⟨69, 1, [2]⟩
def a69 : CodeF := (kSeq (kReg (sS 1 (xK nils) sEnd))
 (kSeq (kReg (sC (cFn 163) [(xK nils), (xT 0)] (sS 1 (xL 0) sEnd)))
 kRet))
theorem t69 : FF d69 Tryz.f69 a69 [(.t 1)] := ff Tryz.func69 (by kernel_rfl)
def x69 : XFn := .go a69 1 pd1 [(.t 1)]
def d70 : FD := ⟨70, 2, [5, 7, 3]⟩
def a70 : CodeF := (kSeq (kReg (sV (oLoad (xT 1)) (sH (oRngM (xL 0)) (sS 2 (xL 0) sEnd))))
 (kBlock 0 (kLoop (kSeq (kReg (sNext (xT 2) (sV (oExt 0 (xL 0)) (sS 3 (xL 0) sEnd))))
 (kSeq (kCond (xT 3) kSkip
 (kExit 0))
 (kBlock 1 (kSeq (kReg (sV (oEnt (xT 2)) (sV (oExt 0 (xL 0)) (sS 4 (xL 0) sEnd))))
 (kRegC (fun k => (sC (cVal (xT 0)) [(xT 4)] (sV (oUn .not (xL 0)) k))) (xL 0) kRet
 kSkip))))))))
theorem t70 : FF d70 Tryz.f70 a70 [] := ff Tryz.func70 (by kernel_rfl)
def x70 : XFn := .go a70 2 pd3 []
def d71 : FD := ⟨71, 1, [2]⟩
def a71 : CodeF := (kSeq (kReg (sS 1 (xK nilptr) sEnd))
 (kSeq (kReg (sV (oMov (xT 0)) (sV (oMm false (xL 0) [(ki 16384)]) (sV (oMm true (ki 0) [(xL 0)]) (sS 0 (xL 0) sEnd)))))
 (kSeq (kReg (sV (oBin .add .no (xT 0) (ki 63)) (sV (oBin .quo .no (xL 0) (ki 64)) (sH (oMksl 33 1 [(int .u64 (.ofNat 0))] (xL 0) (xL 0)) (sV (oBuild [nils, (int .i64 (.ofNat 0))] [(0, 1, (xL 0)), (1, 1, (xT 0))]) (sH (oBox 140 2 (xL 0)) (sS 1 (xL 0) sEnd)))))))
 kRet)))
theorem t71 : FF d71 Tryz.f71 a71 [(.t 1)] := ff Tryz.func71 (by kernel_rfl)
def x71 : XFn := .go a71 1 pd1 [(.t 1)]
def d72 : FD := ⟨72, 1, [2]⟩
def a72 : CodeF := (kSeq (kReg (sS 1 (ki 0) sEnd))
 (kSeq (kRegC (fun k => (sV (oBin .eql .ptr (xT 0) (xK nilptr)) k)) (xL 0) (kSeq (kReg (sS 1 (ki 0) sEnd))
 kRet)
 kSkip)
 (kSeq (kReg (sV (oNilc (xT 0)) (sV (oFaddr 1 (xL 0)) (sV (oLoad (xL 0)) (sS 1 (xL 0) sEnd)))))
 kRet)))
theorem t72 : FF d72 Tryz.f72 a72 [(.t 1)] := ff Tryz.func72 (by kernel_rfl)
def x72 : XFn := .go a72 1 pd1 [(.t 1)]
def d73 : FD := ⟨73, 1, [2]⟩
def a73 : CodeF := (kSeq (kReg (sS 1 (ki 0) sEnd))
 (kSeq (kRegC (fun k => (sV (oBin .eql .ptr (xT 0) (xK nilptr)) k)) (xL 0) (kSeq (kReg (sS 1 (ki 0) sEnd))
 kRet)
 kSkip)
 (kSeq (kReg (sV (oNilc (xT 0)) (sV (oFaddr 2 (xL 0)) (sV (oLoad (xL 0)) (sV (oLenL (xL 0)) (sS 1 (xL 0) sEnd))))))
 kRet)))
theorem t73 : FF d73 Tryz.f73 a73 [(.t 1)] := ff Tryz.func73 (by kernel_rfl)
def x73 : XFn := .go a73 1 pd1 [(.t 1)]
def d74 : FD := ⟨74, 1, [2]⟩
def a74 : CodeF := (kSeq (kReg (sS 1 (xK nils) sEnd))
 (kSeq (kRegC (fun k => (sV (oBin .eql .ptr (xT 0) (xK nilptr)) k)) (xL 0) (kSeq (kReg (sS 1 (xK nils) sEnd))
 kRet)
 kSkip)
 (kSeq (kReg (sV (oNilc (xT 0)) (sV (oFaddr 2 (xL 0)) (sV (oLoad (xL 0)) (sC (cFn 164) [(xL 0)] (sC (cFn 103) [(xL 0)] (sS 1 (xL 0) sEnd)))))))
 kRet)))
theorem t74 : FF d74 Tryz.f74 a74 [(.t 1)] := ff Tryz.func74 (by kernel_rfl)
def x74 : XFn := .go a74 1 pd1 [(.t 1)]
def d75 : FD := ⟨75, 1, [2]⟩
def a75 : CodeF := (kSeq (kReg (sV (oLenL (xT 0)) (sS 1 (xL 0) sEnd)))
 (kReg (sV (oConv .u64 (xT 1)) (sC (cFn 68) [(xL 0)] (sC (cFn 165) [(xT 0), (ki 0), (xT 1), (xL 0)] sEnd)))))
theorem t75 : FF d75 Tryz.f75 a75 [] := ff Tryz.func75 (by kernel_rfl)
def x75 : XFn := .go a75 1 pd1 []
def d76 : FD := ⟨76, 1, [2, 3, 25, 4, 5, 44]⟩
def a76 : CodeF := (kSeq (kReg (sS 1 (xK nils) sEnd))
 (kSeq (kRegC (fun k => (sV (oLenL (xT 0)) (sV (oBin .lss .no (xL 0) (ki 2)) k))) (xL 0) (kSeq (kReg (sS 1 (xT 0) sEnd))
 kRet)
 kSkip)
 (kSeq (kSeq (kReg (sS 2 (ki 1) sEnd))
 (kBlock 0 (kLoop (kSeq (kRegC (fun k => (sV (oLenL (xT 0)) (sV (oBin .lss .no (xT 2) (xL 0)) k))) (xL 0) kSkip
 (kExit 0))
 (kSeq (kBlock 1 (kSeq (kDraw [(.v (oMov (xT 0)), none), (.v (oMov (xT 2)), none), (.v (oIaddr 1 (xL 1) (xL 0)), none), (.v (oLoad (xL 0)), none), (.v (oMov (xT 0)), none), (.v (oMov (xT 2)), none), (.v (oBin .sub .no (xL 0) (ki 1)), none), (.v (oIaddr 1 (xL 2) (xL 0)), none), (.v (oLoad (xL 0)), none), (.v (oBin .eql .no (xL 5) (xL 0)), none)] 0 [none, none, none, (some 0), none, none, none] [])
 (kCond (xT 3) (kSeq (kReg (sV (oSlc 1 (xT 0) (some (xT 2)) none none) (sS 4 (xL 0) sEnd)))
 (kSeq (kSeq (kReg (sS 5 (ki 1) sEnd))
 (kBlock 2 (kLoop (kSeq (kRegC (fun k => (sV (oLenL (xT 4)) (sV (oBin .lss .no (xT 5) (xL 0)) k))) (xL 0) kSkip
 (kExit 2))
 (kSeq (kBlock 3 (kSeq (kDraw [(.v (oMov (xT 4)), none), (.v (oMov (xT 5)), none), (.v (oIaddr 1 (xL 1) (xL 0)), none), (.v (oLoad (xL 0)), none), (.v (oMov (xT 4)), none), (.v (oMov (xT 5)), none), (.v (oBin .sub .no (xL 0) (ki 1)), none), (.v (oIaddr 1 (xL 2) (xL 0)), none), (.v (oLoad (xL 0)), none), (.v (oBin .neq .no (xL 5) (xL 0)), none)] 0 [none, none, none, none, none, none, (some 0)] [])
 (kCond (xT 6) (kSeq (kReg (sV (oIaddr 1 (xT 4) (xT 5)) (sV (oLoad (xL 0)) (sV (oIaddr 1 (xT 0) (xT 2)) (sH (oStore 1 (xL 0) (xL 1)) sEnd)))))
 (kReg (sV (oMov (xT 2)) (sV (oBin .add .no (xL 0) (ki 1)) (sS 2 (xL 0) sEnd)))))
 kSkip)))
 (kReg (sV (oMov (xT 5)) (sV (oBin .add .no (xL 0) (ki 1)) (sS 5 (xL 0) sEnd)))))))))
 (kSeq (kReg (sV (oSlc 1 (xT 0) (some (xT 2)) none none) (sH (oClr [(int .u64 (.ofNat 0))] (xL 0)) sEnd)))
 (kSeq (kReg (sV (oSlc 1 (xT 0) none (some (xT 2)) none) (sS 1 (xL 0) sEnd)))
 kRet))))
 kSkip)))
 (kReg (sV (oMov (xT 2)) (sV (oBin .add .no (xL 0) (ki 1)) (sS 2 (xL 0) sEnd)))))))))
 (kSeq (kReg (sS 1 (xT 0) sEnd))
 kRet))))
theorem t76 : FF d76 Tryz.f76 a76 [(.t 1)] := ff Tryz.func76 (by kernel_rfl)
def x76 : XFn := .go a76 1 pd6 [(.t 1)]
def d77 : FD := ⟨77, 1, [2, 4, 3]⟩
def a77 : CodeF := (kSeq (kReg (sS 1 (xK (int .u64 (.ofNat 0))) sEnd))
 (kSeq (kRegC (fun k => (sV (oLenL (xT 0)) (sV (oBin .lss .no (xL 0) (ki 1)) k))) (xL 0) (kReg (sV (oMkif 9 (xK (str [115, 108, 105, 99, 101, 115, 46, 77, 97, 120, 58, 32, 101, 109, 112, 116, 121, 32, 108, 105, 115, 116]))) (sPan (xL 0))))
 kSkip)
 (kSeq (kReg (sV (oIaddr 1 (xT 0) (ki 0)) (sV (oLoad (xL 0)) (sS 3 (xL 0) sEnd))))
 (kSeq (kSeq (kReg (sS 2 (ki 1) sEnd))
 (kBlock 0 (kLoop (kSeq (kRegC (fun k => (sV (oLenL (xT 0)) (sV (oBin .lss .no (xT 2) (xL 0)) k))) (xL 0) kSkip
 (kExit 0))
 (kSeq (kBlock 1 (kReg (sV (oMov (xT 3)) (sV (oIaddr 1 (xT 0) (xT 2)) (sV (oLoad (xL 0)) (sV (oMm true (xL 2) [(xL 0)]) (sS 3 (xL 0) sEnd)))))))
 (kReg (sV (oMov (xT 2)) (sV (oBin .add .no (xL 0) (ki 1)) (sS 2 (xL 0) sEnd)))))))))
 (kSeq (kReg (sS 1 (xT 3) sEnd))
 kRet)))))
theorem t77 : FF d77 Tryz.f77 a77 [(.t 1)] := ff Tryz.func77 (by kernel_rfl)
def x77 : XFn := .go a77 1 pd3 [(.t 1)]
def d78 : FD := ⟨78, 1, [2]⟩
def a78 : CodeF := (kSeq (kReg (sS 1 (xK nilptr) sEnd))
 (kSeq (kReg (sC (cFn 166) [(xT 0), (xK nilptr), (xK (.func (.func 167) [] []))] (sS 1 (xL 0) sEnd)))
 kRet))
theorem t78 : FF d78 Tryz.f78 a78 [(.t 1)] := ff Tryz.func78 (by kernel_rfl)
def x78 : XFn := .go a78 1 pd1 [(.t 1)]
def d79 : FD := ⟨79, 1, [2]⟩
def a79 : CodeF := (kSeq (kReg (sS 1 (xK nils) sEnd))
 (kSeq (kRegC (fun k => (sV (oBin .eql .ptr (xT 0) (xK nilptr)) k)) (xL 0) (kSeq (kReg (sS 1 (xK nils) sEnd))
 kRet)
 kSkip)
 (kSeq (kReg (sV (oNilc (xT 0)) (sV (oFaddr 1 (xL 0)) (sV (oLoad (xL 0)) (sC (cFn 116) [(xL 0)] (sC (cFn 132) [(xL 0)] (sS 1 (xL 0) sEnd)))))))
 kRet)))
theorem t79 : FF d79 Tryz.f79 a79 [(.t 1)] := ff Tryz.func79 (by kernel_rfl)
def x79 : XFn := .go a79 1 pd1 [(.t 1)]
def d80 : FD := ⟨80, 2, [4]⟩
def a80 : CodeF := (kSeq (kReg (sS 2 (xK nils) sEnd))
 (kSeq (kReg (sC (cFn 168) [(xT 0), (xT 1), (xK (.func (.func 169) [] []))] (sS 2 (xL 0) sEnd)))
 kRet))
theorem t80 : FF d80 Tryz.f80 a80 [(.t 2)] := ff Tryz.func80 (by kernel_rfl)
def x80 : XFn := .go a80 2 pd1 [(.t 2)]
def d81 : FD := ⟨81, 1, [2, 1, 16, 17, 18, 15, 5, 3, 37, 38, 39, 36, 7, 8]⟩
def a81 : CodeF := (kSeq (kReg (sH (oBox 30 1 (xT 0)) (sS 2 (xL 0) (sS 1 (xK nils) sEnd))))
 (kSeq (kReg (sV (oFaddr 0 (xT 2)) (sV (oLoad (xL 0)) (sV (oLenL (xL 0)) (sV (oConv .u64 (xL 0)) (sC (cFn 80) [(xK nils), (xL 0)] (sS 8 (xL 0) sEnd)))))))
 (kSeq (kSeq (kReg (sV (oFaddr 0 (xT 2)) (sV (oLoad (xL 0)) (sS 6 (xL 0) (sV (oLenL (xT 6)) (sS 3 (xL 0) (sS 4 (ki 0) sEnd)))))))
 (kBlock 0 (kLoop (kSeq (kReg (sV (oBin .lss .no (xT 4) (xT 3)) (sS 5 (xL 0) sEnd)))
 (kSeq (kCond (xT 5) kSkip
 (kExit 0))
 (kSeq (kBlock 1 (kSeq (kReg (sV (oIaddr 7 (xT 6) (xT 4)) (sV (oLoadN 7 (xL 0)) (sH (oAlloc 48 7 [(str []), (int .i64 (.ofNat 0)), nils, (int .i64 (.ofNat 0)), (int .i64 (.ofNat 0)), (bool false), (bool false)]) (sS 7 (xL 0) (sH (oStore 7 (xT 7) (xL 1)) sEnd))))))
 (kSeq (kDraw [(.v (oMov (xT 8)), none), (.v (oFaddr 0 (xT 7)), none), (.v (oLoad (xL 0)), none), (.c (cFn 170) [(xL 2), (xL 0)], none), (.v (oFaddr 1 (xT 7)), none), (.v (oLoad (xL 0)), none), (.v (oConv .u64 (xL 0)), none), (.c (cFn 80) [(xL 3), (xL 0)], none), (.v (oMov (xL 0)), none)] 0 [none, none, none, none, none, none, none, none, (some 0), none, none, none, none, none, none] [(3, 5)])
 (kSeq (kReg (sV (oMov (xT 8)) (sV (oFaddr 2 (xT 7)) (sV (oLoad (xL 0)) (sV (oLenL (xL 0)) (sV (oConv .u64 (xL 0)) (sC (cFn 80) [(xL 4), (xL 0)] (sS 8 (xL 0) sEnd))))))))
 (kSeq (kSeq (kReg (sV (oFaddr 2 (xT 7)) (sV (oLoad (xL 0)) (sS 12 (xL 0) (sV (oLenL (xT 12)) (sS 9 (xL 0) (sS 10 (ki 0) sEnd)))))))
 (kBlock 2 (kLoop (kSeq (kReg (sV (oBin .lss .no (xT 10) (xT 9)) (sS 11 (xL 0) sEnd)))
 (kSeq (kCond (xT 11) kSkip
 (kExit 2))
 (kSeq (kBlock 3 (kSeq (kReg (sV (oIaddr 1 (xT 12) (xT 10)) (sV (oLoad (xL 0)) (sS 13 (xL 0) sEnd))))
 (kReg (sV (oMov (xT 8)) (sV (oConv .u64 (xT 13)) (sC (cFn 80) [(xL 1), (xL 0)] (sS 8 (xL 0) sEnd)))))))
 (kReg (sV (oBin .add .no (xT 10) (ki 1)) (sS 10 (xL 0) sEnd)))))))))
 (kSeq (kReg (sS 14 (xK (int .u64 (.ofNat 0))) sEnd))
 (kSeq (kRegC (fun k => (sV (oFaddr 5 (xT 7)) (sV (oLoad (xL 0)) k))) (xL 0) (kReg (sV (oMov (xT 14)) (sV (oBin .or .no (xL 0) (xK (int .u64 (.ofNat 1)))) (sS 14 (xL 0) sEnd))))
 kSkip)
 (kSeq (kRegC (fun k => (sV (oFaddr 6 (xT 7)) (sV (oLoad (xL 0)) k))) (xL 0) (kReg (sV (oMov (xT 14)) (sV (oBin .or .no (xL 0) (xK (int .u64 (.ofNat 2)))) (sS 14 (xL 0) sEnd))))
 kSkip)
 (kDraw [(.v (oMov (xT 8)), none), (.v (oFaddr 3 (xT 7)), none), (.v (oLoad (xL 0)), none), (.v (oConv .u64 (xL 0)), none), (.c (cFn 80) [(xL 3), (xL 0)], none), (.v (oFaddr 4 (xT 7)), none), (.v (oLoad (xL 0)), none), (.v (oConv .u64 (xL 0)), none), (.c (cFn 80) [(xL 3), (xL 0)], none), (.v (oMov (xT 14)), none), (.c (cFn 80) [(xL 1), (xL 0)], none), (.v (oMov (xL 0)), none)] 0 [none, none, none, none, none, none, none, none, (some 0), none, none, none, none, none, none] [(5, 7)])))))))))
 (kReg (sV (oBin .add .no (xT 4) (ki 1)) (sS 4 (xL 0) sEnd)))))))))
 (kSeq (kReg (sS 1 (xT 8) sEnd))
 kRet))))
theorem t81 : FF d81 Tryz.f81 a81 [(.t 1)] := ff Tryz.func81 (by kernel_rfl)
def x81 : XFn := .go a81 1 pd14 [(.t 1)]
def d82 : FD := ⟨82, 1, [2, 11, 12, 4, 3]⟩
def a82 : CodeF := (kSeq (kReg (sS 1 (xK nils) sEnd))
 (kSeq (kReg (sC (cFn 72) [(xT 0)] (sV (oBin .add .no (xL 0) (ki 7)) (sV (oBin .quo .no (xL 0) (ki 8)) (sH (oMksl 5 1 [(int .u8 (.ofNat 0))] (xL 0) (xL 0)) (sH (oAlloc 51 1 [nils]) (sS 5 (xL 0) (sH (oStore 1 (xT 5) (xL 1)) sEnd))))))))
 (kSeq (kSeq (kReg (sC (cFn 171) [(xT 0)] (sS 2 (xL 0) sEnd)))
 (kBlock 0 (kRf 33557082 [3] (xT 2))))
 (kSeq (kDraw [(.v (oMov (xT 0)), none), (.c (cFn 72) [(xL 0)], none), (.v (oConv .u64 (xL 0)), none), (.c (cFn 80) [(xK nils), (xL 0)], none), (.v (oLoad (xT 5)), none), (.h (oApp 5 1 (xL 1) (xL 0)), none), (.c (cFn 132) [(xL 0)], none), (.v (oMov (xL 0)), none)] 0 [none, (some 0), none, none, none, none] [(3, 6), (3, 4)])
 kRet))))
theorem t82 : FF d82 Tryz.f82 a82 [(.t 1)] := ff Tryz.func82 (by kernel_rfl)
def x82 : XFn := .go a82 1 pd5 [(.t 1)]
def r82x0 : CodeF × CodeF := ((kReg (sS 4 (xT 3) sEnd)),
 (kBlock 1 (kDraw [(.v (oLoad (xT 5)), none), (.v (oMov (xT 4)), none), (.v (oBin .quo .no (xL 0) (ki 8)), none), (.v (oIaddr 1 (xL 2) (xL 0)), none), (.v (oLoad (xL 0)), none), (.v (oMov (xT 4)), none), (.v (oBin .rem .no (xL 0) (ki 8)), none), (.v (oBin .shl .no (xK (int .u8 (.ofNat 1))) (xL 0)), none), (.v (oBin .or .no (xL 3) (xL 0)), none), (.v (oIaddr 1 (xL 8) (xL 6)), none), (.h (oStore 1 (xL 0) (xL 1)), none)] 0 [none, none, none, none, none, none] [])))
theorem u82x0 : RfFact Tryz.prog d82 Tryz.f82 33557082 r82x0 := ⟨Tryz.func82, by kernel_rfl⟩
def d83 : FD := ⟨83, 2, [4, 5, 23, 24, 25, 22, 9, 6, 7]⟩
def a83 : CodeF := (kSeq (kReg (sS 2 (xK nils) (sS 3 (ki 0) sEnd)))
 (kSeq (kRegC (fun k => (sV (oLenL (xT 1)) (sV (oBin .gtr .no (xL 0) (ki 1024)) k))) (xL 0) (kSeq (kReg (sS 2 (xK nils) (sS 3 (ki 3) sEnd)))
 kRet)
 kSkip)
 (kSeq (kReg (sH (oBsl 5 1 3 [(int .u8 (.ofNat 0))] [(0, 1, (xK (int .u8 (.ofNat 76)))), (1, 1, (xK (int .u8 (.ofNat 84)))), (2, 1, (xK (int .u8 (.ofNat 1))))]) (sH (oMark (xL 0)) (sH (oBsl 5 1 1 [(int .u8 (.ofNat 0))] [(0, 1, (xT 0))]) (sH (oApp 5 1 (xL 1) (xL 0)) (sV (oLenL (xT 1)) (sV (oConv .u64 (xL 0)) (sC (cFn 80) [(xL 2), (xL 0)] (sS 9 (xL 0) sEnd)))))))))
 (kSeq (kReg (sS 10 (ki 4) sEnd))
 (kSeq (kSeq (kReg (sS 7 (xT 1) (sV (oLenL (xT 7)) (sS 4 (xL 0) (sS 5 (ki 0) sEnd)))))
 (kBlock 0 (kLoop (kSeq (kReg (sV (oBin .lss .no (xT 5) (xT 4)) (sS 6 (xL 0) sEnd)))
 (kSeq (kCond (xT 6) kSkip
 (kExit 0))
 (kSeq (kBlock 1 (kSeq (kReg (sV (oIaddr 1 (xT 7) (xT 5)) (sV (oLoad (xL 0)) (sS 8 (xL 0) sEnd))))
 (kSeq (kReg (sV (oMov (xT 9)) (sV (oLenL (xT 8)) (sV (oConv .u64 (xL 0)) (sC (cFn 80) [(xL 2), (xL 0)] (sS 9 (xL 0) sEnd))))))
 (kSeq (kReg (sV (oMov (xT 10)) (sV (oLenL (xT 8)) (sV (oBin .add .no (xL 1) (xL 0)) (sS 10 (xL 0) sEnd)))))
 (kRegC (fun k => (sV (oBin .gtr .no (xT 10) (ki 16777216)) k)) (xL 0) (kSeq (kReg (sS 2 (xK nils) (sS 3 (ki 3) sEnd)))
 kRet)
 kSkip)))))
 (kReg (sV (oBin .add .no (xT 5) (ki 1)) (sS 5 (xL 0) sEnd)))))))))
 (kSeq (kRegC (fun k => (sV (oLenL (xT 9)) (sV (oBin .add .no (xL 0) (xT 10)) (sV (oBin .gtr .no (xL 0) (ki 16777216)) k)))) (xL 0) (kSeq (kReg (sS 2 (xK nils) (sS 3 (ki 3) sEnd)))
 kRet)
 kSkip)
 (kSeq (kReg (sV (oMov (xT 9)) (sC (cFn 172) [(xT 1)] (sH (oApp 5 1 (xL 1) (xL 0)) (sS 9 (xL 0) sEnd)))))
 (kSeq (kReg (sH (oBsl 51 1 1 [nils] [(0, 1, (xT 9))]) (sC (cFn 174) [(xL 0)] (sC (cFn 173) [(xL 0)] (sH (oApp 5 1 (xT 9) (xL 0)) (sC (cFn 132) [(xL 0)] (sS 2 (xL 0) (sS 3 (ki 0) sEnd))))))))
 kRet))))))))
theorem t83 : FF d83 Tryz.f83 a83 [(.t 2), (.t 3)] := ff Tryz.func83 (by kernel_rfl)
def x83 : XFn := .go a83 2 pd9 [(.t 2), (.t 3)]
def d84 : FD := ⟨84, 2, [2]⟩
def a84 : CodeF := (kSeq (kReg (sS 2 (ki 0) sEnd))
 (kSeq (kDraw [(.v (oLoad (xT 0)), none), (.v (oNilc (xL 0)), none), (.v (oFaddr 0 (xL 0)), none), (.v (oLoad (xL 0)), none), (.v (oLoad (xT 1)), none), (.c (cFn 15) [(xL 1), (xL 0)], none), (.v (oMov (xL 0)), none)] 0 [none, none, (some 0)] [])
 kRet))
theorem t84 : FF d84 Tryz.f84 a84 [(.t 2)] := ff Tryz.func84 (by kernel_rfl)
def x84 : XFn := .go a84 2 pd1 [(.t 2)]
def d85 : FD := ⟨85, 4, []⟩
def a85 : CodeF := (kRegC (fun k => (sV (oLoad (xT 0)) (sV (oBin .neq .no (xL 0) (ki 0)) k))) (xL 0) (kSeq (kReg (sV (oLoad (xT 1)) (sC (cVal (xL 0)) [] sEnd)))
 (kDraw [(.v (oLoad (xT 2)), none), (.v (oNilc (xL 0)), none), (.v (oFaddr 0 (xL 0)), none), (.v (oLoad (xL 0)), none), (.v (oLoad (xT 3)), none), (.c (cFn 46) [(xL 1), (xL 0)], none)] 0 [none, none, none, none] []))
 kSkip)
theorem t85 : FF d85 Tryz.f85 a85 [] := ff Tryz.func85 (by kernel_rfl)
def x85 : XFn := .go a85 4 pd0 []
def d86 : FD := ⟨86, 3, [3]⟩
def a86 : CodeF := (kSeq (kReg (sS 3 (ki 0) sEnd))
 (kSeq (kDraw [(.v (oLoad (xT 0)), none), (.v (oNilc (xL 0)), none), (.v (oFaddr 0 (xL 0)), none), (.v (oLoad (xL 0)), none), (.v (oLoad (xT 1)), none), (.v (oLoad (xT 2)), none), (.c (cFn 16) [(xL 2), (xL 1), (xL 0)], none), (.v (oMov (xL 0)), none)] 0 [none, none, none, (some 0)] [])
 kRet))
theorem t86 : FF d86 Tryz.f86 a86 [(.t 3)] := ff Tryz.func86 (by kernel_rfl)
def x86 : XFn := .go a86 3 pd1 [(.t 3)]
def d87 : FD := ⟨87, 2, [2]⟩
def a87 : CodeF := (kSeq (kReg (sS 2 (ki 0) sEnd))
 (kSeq (kDraw [(.v (oLoad (xT 0)), none), (.v (oNilc (xL 0)), none), (.v (oFaddr 0 (xL 0)), none), (.v (oLoad (xL 0)), none), (.v (oLoad (xT 1)), none), (.c (cFn 88) [(xL 1), (xL 0)], none), (.v (oMov (xL 0)), none)] 0 [none, none, (some 0)] [])
 kRet))
theorem t87 : FF d87 Tryz.f87 a87 [(.t 2)] := ff Tryz.func87 (by kernel_rfl)
def x87 : XFn := .go a87 2 pd1 [(.t 2)]
def d88 : FD := ⟨88, 2, [4, 5, 7]⟩
def a88 : CodeF := (kSeq (kReg (sS 2 (ki 0) sEnd))
 (kSeq (kSeq (kReg (sH (oBsl 9 1 1 [(str [])] [(0, 1, (xT 1))]) (sC (cFn 48) [(xT 0), (xL 0)] (sV (oExt 0 (xL 0)) (sV (oExt 1 (xL 1)) (sS 3 (xL 1) sEnd))))))
 (kRegC (fun k => (sV (oBin .neq .no (xT 3) (ki 0)) k)) (xL 0) (kSeq (kReg (sS 2 (xT 3) sEnd))
 kRet)
 kSkip))
 (kSeq (kReg (sV (oNilc (xT 0)) (sV (oFaddr 0 (xL 0)) (sV (oLoad (xL 0)) (sV (oLook .str nilptr false (xL 0) (xT 1)) (sS 4 (xL 0) sEnd))))))
 (kSeq (kRegC (fun k => (sV (oBin .eql .ptr (xT 4) (xK nilptr)) k)) (xL 0) (kSeq (kReg (sS 2 (ki 10) sEnd))
 kRet)
 kSkip)
 (kSeq (kReg (sV (oNilc (xT 4)) (sV (oFaddr 0 (xL 0)) (sV (oLoad (xL 0)) (sV (oLenL (xL 0)) (sV (oNilc (xT 4)) (sV (oFaddr 1 (xL 0)) (sH (oStore 1 (xL 0) (xL 2)) sEnd))))))))
 (kSeq (kReg (sS 2 (ki 0) sEnd))
 kRet))))))
theorem t88 : FF d88 Tryz.f88 a88 [(.t 2)] := ff Tryz.func88 (by kernel_rfl)
def x88 : XFn := .go a88 2 pd3 [(.t 2)]
def d89 : FD := ⟨89, 4, []⟩
def a89 : CodeF := (kSeq (kRegC (fun k => (sV (oLoad (xT 1)) (sV (oLook .str nilptr false (xT 0) (xL 0)) (sV (oLoad (xT 2)) (sV (oBin .eql .ptr (xL 1) (xL 0)) k))))) (xL 0) (kReg (sV (oLoad (xT 1)) (sH (oDel .str (xT 0) (xL 0)) sEnd)))
 kSkip)
 (kReg (sV (oLoad (xT 3)) (sV (oLoad (xT 2)) (sH (oMupd .str (xT 0) (xL 1) (xL 0)) sEnd)))))
theorem t89 : FF d89 Tryz.f89 a89 [] := ff Tryz.func89 (by kernel_rfl)
def x89 : XFn := .go a89 4 pd0 []
def d90 : FD := ⟨90, 2, []⟩
def a90 : CodeF := (kReg (sV (oLoad (xT 1)) (sH (oDel .str (xT 0) (xL 0)) sEnd)))
theorem t90 : FF d90 Tryz.f90 a90 [] := ff Tryz.func90 (by kernel_rfl)
def x90 : XFn := .go a90 2 pd0 []
def d91 : FD := ⟨91, 1, [2]⟩
def a91 : CodeF := (kSeq (kReg (sS 1 (xK (bool false)) sEnd))
 (kSeq (kDraw [(.v (oMov (xT 0)), none), (.v (oNilc (xL 0)), none), (.v (oFaddr 4 (xL 0)), none), (.v (oLoad (xL 0)), none), (.v (oBin .geq .no (xL 0) (ki 0)), none), (.v (oMov (xL 0)), none), (.v (oMov (xT 0)), (some ((xL 0), true))), (.v (oNilc (xL 0)), (some ((xL 1), true))), (.v (oFaddr 3 (xL 0)), (some ((xL 2), true))), (.v (oLoad (xL 0)), (some ((xL 3), true))), (.v (oMov (xT 0)), (some ((xL 4), true))), (.v (oNilc (xL 0)), (some ((xL 5), true))), (.v (oFaddr 4 (xL 0)), (some ((xL 6), true))), (.v (oLoad (xL 0)), (some ((xL 7), true))), (.v (oBin .gtr .no (xL 4) (xL 0)), (some ((xL 8), true))), (.v (oPick (xL 9) (xL 0) (xK (bool false))), none), (.v (oMov (xL 0)), none)] 0 [none, (some 0)] [])
 kRet))
theorem t91 : FF d91 Tryz.f91 a91 [(.t 1)] := ff Tryz.func91 (by kernel_rfl)
def x91 : XFn := .go a91 1 pd1 [(.t 1)]
def d92 : FD := ⟨92, 2, [4]⟩
def a92 : CodeF := (kSeq (kReg (sS 2 (xK (bool false)) sEnd))
 (kSeq (kReg (sC (cFn 175) [(xT 0), (xT 1)] (sV (oBin .geq .no (xL 0) (ki 0)) (sS 2 (xL 0) sEnd))))
 kRet))
theorem t92 : FF d92 Tryz.f92 a92 [(.t 2)] := ff Tryz.func92 (by kernel_rfl)
def x92 : XFn := .go a92 2 pd1 [(.t 2)]
def d93 : FD := ⟨93, 1, [2]⟩
def a93 : CodeF := (kSeq (kReg (sS 1 (xK (bool false)) sEnd))
 (kSeq (kReg (sC (cFn 94) [(xT 0)] (sV (oUn .not (xL 0)) (sS 1 (xL 0) sEnd))))
 kRet))
theorem t93 : FF d93 Tryz.f93 a93 [(.t 1)] := ff Tryz.func93 (by kernel_rfl)
def x93 : XFn := .go a93 1 pd1 [(.t 1)]
def d94 : FD := ⟨94, 1, [2, 15, 16, 17, 14, 4]⟩
def a94 : CodeF := (kSeq (kReg (sS 1 (xK (bool false)) sEnd))
 (kSeq (kRegC (fun k => (sV (oLenS (xT 0)) (sV (oBin .lss .no (xL 0) (ki 1)) (sG (xL 0) false (sV (oMov (xT 0))) (sG (xL 1) false (sV (oLenS (xL 0))) (sG (xL 2) false (sV (oBin .gtr .no (xL 0) (ki 24))) (sV (oPick (xL 3) (xK (bool true)) (xL 0)) k))))))) (xL 0) (kSeq (kReg (sS 1 (xK (bool false)) sEnd))
 kRet)
 kSkip)
 (kSeq (kSeq (kReg (sH (oS2b 5 (xT 0)) (sS 5 (xL 0) (sV (oLenL (xT 5)) (sS 2 (xL 0) (sS 3 (ki 0) sEnd))))))
 (kBlock 0 (kLoop (kSeq (kReg (sV (oBin .lss .no (xT 3) (xT 2)) (sS 4 (xL 0) sEnd)))
 (kSeq (kCond (xT 4) kSkip
 (kExit 0))
 (kSeq (kBlock 1 (kSeq (kReg (sV (oIaddr 1 (xT 5) (xT 3)) (sV (oLoad (xL 0)) (sS 6 (xL 0) sEnd))))
 (kRegC (fun k => (sV (oBin .lss .no (xT 6) (xK (int .u8 (.ofNat 97)))) (sG (xL 0) false (sV (oMov (xT 6))) (sG (xL 1) false (sV (oBin .gtr .no (xL 0) (xK (int .u8 (.ofNat 122))))) (sV (oPick (xL 2) (xK (bool true)) (xL 0)) (sG (xL 0) true (sV (oMov (xT 6))) (sG (xL 1) true (sV (oBin .lss .no (xL 0) (xK (int .u8 (.ofNat 48))))) (sG (xL 2) true (sV (oMov (xL 0))) (sG (xL 0) false (sV (oMov (xT 6))) (sG (xL 1) false (sV (oBin .gtr .no (xL 0) (xK (int .u8 (.ofNat 57))))) (sG (xL 5) true (sV (oPick (xL 2) (xK (bool true)) (xL 0))) (sV (oPick (xL 6) (xL 0) (xK (bool false))) (sG (xL 0) true (sV (oMov (xT 6))) (sG (xL 1) true (sV (oBin .neq .no (xL 0) (xK (int .u8 (.ofNat 46))))) (sV (oPick (xL 2) (xL 0) (xK (bool false))) (sG (xL 0) true (sV (oMov (xT 6))) (sG (xL 1) true (sV (oBin .neq .no (xL 0) (xK (int .u8 (.ofNat 95))))) (sV (oPick (xL 2) (xL 0) (xK (bool false))) k)))))))))))))))))) (xL 0) (kSeq (kReg (sS 1 (xK (bool false)) sEnd))
 kRet)
 kSkip)))
 (kReg (sV (oBin .add .no (xT 3) (ki 1)) (sS 3 (xL 0) sEnd)))))))))
 (kSeq (kReg (sS 1 (xK (bool true)) sEnd))
 kRet))))
theorem t94 : FF d94 Tryz.f94 a94 [(.t 1)] := ff Tryz.func94 (by kernel_rfl)
def x94 : XFn := .go a94 1 pd6 [(.t 1)]
def d95 : FD := ⟨95, 2, [4, 2, 17, 18, 19, 16, 5, 7]⟩
def a95 : CodeF := (kSeq (kReg (sH (oBox 30 1 (xT 0)) (sS 3 (xL 0) (sS 2 (ki 0) sEnd))))
 (kSeq (kBlock 0 (kRegC (fun k => (sV (oLoadN 1 (xT 3)) (sC (cFn 140) [(xL 0)] (sV (oBin .neq .no (xL 0) (ki 0)) k)))) (xL 0) (kSeq (kReg (sS 2 (ki 80) sEnd))
 kRet)
 (kRegC (fun k => (sV (oLenL (xT 1)) (sV (oBin .gtr .no (xL 0) (ki 16384)) k))) (xL 0) (kSeq (kReg (sS 2 (ki 3) sEnd))
 kRet)
 kSkip)))
 (kSeq (kReg (sS 8 (xK (int .u64 (.ofNat 0))) sEnd))
 (kSeq (kSeq (kReg (sS 7 (xT 1) (sV (oLenL (xT 7)) (sS 4 (xL 0) (sS 5 (ki 0) sEnd)))))
 (kBlock 1 (kLoop (kSeq (kReg (sV (oBin .lss .no (xT 5) (xT 4)) (sS 6 (xL 0) sEnd)))
 (kSeq (kCond (xT 6) kSkip
 (kExit 1))
 (kSeq (kBlock 2 (kSeq (kReg (sV (oIaddr 2 (xT 7) (xT 5)) (sV (oLoadN 2 (xL 0)) (sH (oAlloc 86 2 [(int .u64 (.ofNat 0)), nils]) (sS 9 (xL 0) (sH (oStore 2 (xT 9) (xL 1)) sEnd))))))
 (kSeq (kRegC (fun k => (sV (oFaddr 0 (xT 9)) (sV (oLoad (xL 0)) (sV (oBin .leq .no (xL 0) (xT 8)) k)))) (xL 0) (kSeq (kReg (sS 2 (ki 1) sEnd))
 kRet)
 kSkip)
 (kReg (sV (oFaddr 0 (xT 9)) (sV (oLoad (xL 0)) (sS 8 (xL 0) sEnd)))))))
 (kReg (sV (oBin .add .no (xT 5) (ki 1)) (sS 5 (xL 0) sEnd)))))))))
 (kSeq (kReg (sS 2 (ki 0) sEnd))
 kRet)))))
theorem t95 : FF d95 Tryz.f95 a95 [(.t 2)] := ff Tryz.func95 (by kernel_rfl)
def x95 : XFn := .go a95 2 pd8 [(.t 2)]
def d96 : FD := ⟨96, 2, [4, 5, 2, 6, 3, 38, 39, 40, 37, 11, 12, 9, 15, 14, 8, 13, 62, 63, 64, 61, 17, 18, 7]⟩
def a96 : CodeF := (kSeq (kReg (sH (oBox 30 1 (xT 0)) (sS 4 (xL 0) (sH (oBox 84 1 (xT 1)) (sS 6 (xL 0) (sS 2 (xK nils) (sS 3 (ki 0) sEnd)))))))
 (kSeq (kSeq (kReg (sV (oLoadN 1 (xT 4)) (sC (cFn 140) [(xL 0)] (sS 5 (xL 0) sEnd))))
 (kRegC (fun k => (sV (oBin .neq .no (xT 5) (ki 0)) k)) (xL 0) (kSeq (kReg (sS 2 (xK nils) (sS 3 (xT 5) sEnd)))
 kRet)
 kSkip))
 (kSeq (kRegC (fun k => (sV (oFaddr 0 (xT 6)) (sV (oLoad (xL 0)) (sV (oLenL (xL 0)) (sV (oBin .gtr .no (xL 0) (ki 64)) k))))) (xL 0) (kSeq (kReg (sS 2 (xK nils) (sS 3 (ki 84) sEnd)))
 kRet)
 kSkip)
 (kSeq (kReg (sS 24 (xK nils) sEnd))
 (kSeq (kDraw [(.v (oFaddr 0 (xT 4)), none), (.v (oLoad (xL 0)), none), (.v (oLenL (xL 0)), none), (.v (oFaddr 0 (xT 4)), none), (.v (oLoad (xL 0)), none), (.v (oLenL (xL 0)), none), (.f (oMksl 3 1 [(int .i64 (.ofNat 0))] (xL 3) (xL 3)), none), (.f (oAlloc 46 1 [nils]), none), (.f (oAlloc 46 1 [nils]), none), (.h (oStore 1 (xL 1) (xL 2)), none), (.f (oMksl 3 1 [(int .i64 (.ofNat 0))] (xL 4) (xL 4)), none), (.h (oStore 1 (xL 2) (xL 0)), none)] 4 [none, none, none, none, none, none, none, none, none, none, none, none, none, (some 3), none, none, (some 4), none, none, none, none, none, none, none, none] [(7, 2)])
 (kSeq (kSeq (kReg (sV (oFaddr 0 (xT 6)) (sV (oLoad (xL 0)) (sS 10 (xL 0) (sV (oLenL (xT 10)) (sS 7 (xL 0) (sS 8 (ki 0) sEnd)))))))
 (kBlock 0 (kLoop (kSeq (kReg (sV (oBin .lss .no (xT 8) (xT 7)) (sS 9 (xL 0) sEnd)))
 (kSeq (kCond (xT 9) kSkip
 (kExit 0))
 (kSeq (kBlock 1 (kSeq (kReg (sV (oIaddr 3 (xT 10) (xT 8)) (sV (oLoadN 3 (xL 0)) (sH (oAlloc 81 3 [(str []), (str []), nils]) (sS 11 (xL 0) (sH (oStore 3 (xT 11) (xL 1)) sEnd))))))
 (kSeq (kReg (sV (oLoadN 1 (xT 4)) (sV (oFaddr 0 (xT 11)) (sV (oLoad (xL 0)) (sC (cFn 176) [(xL 2), (xL 0)] (sV (oExt 0 (xL 0)) (sV (oExt 1 (xL 1)) (sH (oAlloc 3 1 [(int .i64 (.ofNat 0))]) (sS 12 (xL 0) (sH (oAlloc 4 1 [(bool false)]) (sS 17 (xL 0) (sH (oStore 1 (xT 12) (xL 3)) (sH (oStore 1 (xT 17) (xL 3)) sEnd)))))))))))))
 (kSeq (kReg (sV (oFaddr 0 (xT 4)) (sV (oLoad (xL 0)) (sV (oLoad (xT 12)) (sV (oIaddr 7 (xL 1) (xL 0)) (sV (oLoadN 7 (xL 0)) (sH (oAlloc 48 7 [(str []), (int .i64 (.ofNat 0)), nils, (int .i64 (.ofNat 0)), (int .i64 (.ofNat 0)), (bool false), (bool false)]) (sS 15 (xL 0) (sH (oStore 7 (xT 15) (xL 1)) sEnd)))))))))
 (kSeq (kReg (sV (oLoad (xT 12)) (sV (oBuild [(int .i64 (.ofNat 0)), (str []), nils] [(0, 1, (xL 0))]) (sH (oAlloc 180 3 [(int .i64 (.ofNat 0)), (str []), nils]) (sS 14 (xL 0) (sH (oStore 3 (xT 14) (xL 1)) sEnd))))))
 (kSeq (kSeq (kReg (sV (oMkfn 177 [] [(xT 17)]) (sV (oMkfn 179 [] [(xT 15), (xT 11)]) (sV (oMkfn 181 [] [(xT 15), (xT 16), (xT 12)]) (sV (oMkfn 182 [] [(xT 15), (xT 11), (xT 14), (xT 13), (xT 12)]) (sH (oBsl 69 1 4 [nilfunc] [(0, 1, (xL 3)), (1, 1, (xL 2)), (2, 1, (xL 1)), (3, 1, (xL 0))]) (sS 21 (xL 0) (sV (oLenL (xT 21)) (sS 18 (xL 0) (sS 19 (ki 0) sEnd))))))))))
 (kBlock 2 (kLoop (kSeq (kReg (sV (oBin .lss .no (xT 19) (xT 18)) (sS 20 (xL 0) sEnd)))
 (kSeq (kCond (xT 20) kSkip
 (kExit 2))
 (kSeq (kBlock 3 (kSeq (kReg (sV (oIaddr 1 (xT 21) (xT 19)) (sV (oLoad (xL 0)) (sS 22 (xL 0) sEnd))))
 (kSeq (kReg (sC (cVal (xT 22)) [] (sS 23 (xL 0) sEnd)))
 (kRegC (fun k => (sV (oBin .neq .no (xT 23) (ki 0)) k)) (xL 0) (kSeq (kReg (sS 2 (xK nils) (sS 3 (xT 23) sEnd)))
 kRet)
 kSkip))))
 (kReg (sV (oBin .add .no (xT 19) (ki 1)) (sS 19 (xL 0) sEnd)))))))))
 (kSeq (kReg (sV (oLoad (xT 16)) (sV (oLoad (xT 12)) (sV (oIaddr 1 (xL 1) (xL 0)) (sV (oLoad (xL 0)) (sV (oBin .add .no (xL 0) (ki 1)) (sV (oIaddr 1 (xL 4) (xL 3)) (sH (oStore 1 (xL 0) (xL 1)) sEnd))))))))
 (kReg (sV (oMov (xT 24)) (sV (oLoadN 3 (xT 14)) (sH (oBsl 180 3 1 [(int .i64 (.ofNat 0)), (str []), nils] [(0, 3, (xL 0))]) (sH (oApp 180 3 (xL 2) (xL 0)) (sS 24 (xL 0) sEnd)))))))))))))
 (kReg (sV (oBin .add .no (xT 8) (ki 1)) (sS 8 (xL 0) sEnd)))))))))
 (kSeq (kReg (sS 2 (xT 24) (sS 3 (ki 0) sEnd)))
 kRet)))))))
theorem t96 : FF d96 Tryz.f96 a96 [(.t 2), (.t 3)] := ff Tryz.func96 (by kernel_rfl)
def x96 : XFn := .go a96 2 pd23 [(.t 2), (.t 3)]
def d97 : FD := ⟨97, 1, [2, 1, 12, 13, 14, 11, 5, 4, 3]⟩
def a97 : CodeF := (kSeq (kReg (sH (oBox 84 1 (xT 0)) (sS 2 (xL 0) (sH (oAlloc 84 1 [nils]) (sS 1 (xL 0) sEnd)))))
 (kSeq (kReg (sV (oFaddr 0 (xT 2)) (sV (oLoad (xL 0)) (sV (oLenL (xL 0)) (sH (oMksl 81 3 [(str []), (str []), nils] (xL 0) (xL 0)) (sS 9 (xL 0) sEnd))))))
 (kSeq (kSeq (kReg (sV (oFaddr 0 (xT 2)) (sV (oLoad (xL 0)) (sS 6 (xL 0) (sV (oLenL (xT 6)) (sS 3 (xL 0) (sS 4 (ki 0) sEnd)))))))
 (kBlock 0 (kLoop (kSeq (kReg (sV (oBin .lss .no (xT 4) (xT 3)) (sS 5 (xL 0) sEnd)))
 (kSeq (kCond (xT 5) kSkip
 (kExit 0))
 (kSeq (kBlock 1 (kSeq (kReg (sV (oIaddr 3 (xT 6) (xT 4)) (sV (oLoadN 3 (xL 0)) (sH (oAlloc 81 3 [(str []), (str []), nils]) (sS 7 (xL 0) (sS 8 (xT 4) (sH (oStore 3 (xT 7) (xL 1)) sEnd)))))))
 (kSeq (kReg (sV (oFaddr 2 (xT 7)) (sV (oLoad (xL 0)) (sC (cFn 185) [(xL 0)] (sC (cFn 184) [(xL 0)] (sV (oFaddr 2 (xT 7)) (sH (oStore 1 (xL 0) (xL 1)) sEnd)))))))
 (kReg (sV (oLoadN 3 (xT 7)) (sV (oIaddr 3 (xT 9) (xT 8)) (sH (oStore 3 (xL 0) (xL 1)) sEnd)))))))
 (kReg (sV (oBin .add .no (xT 4) (ki 1)) (sS 4 (xL 0) sEnd)))))))))
 (kSeq (kReg (sV (oBuild [nils] [(0, 1, (xT 9))]) (sH (oStore 1 (xT 1) (xL 0)) sEnd)))
 kRet))))
theorem t97 : FF d97 Tryz.f97 a97 [(.cell 1 (some 1))] := ff Tryz.func97 (by kernel_rfl)
def x97 : XFn := .go a97 1 pd9 [(.cell 1 (some 1))]
def d98 : FD := ⟨98, 1, [2]⟩
def a98 : CodeF := (kSeq (kReg (sS 1 (xK nilfunc) sEnd))
 (kSeq (kDraw [(.v (oMov (xT 0)), none), (.v (oMkfn 186 [(xL 0)] []), none), (.v (oMov (xT 0)), none), (.v (oMkfn 187 [(xL 0)] []), none), (.v (oMov (xT 0)), none), (.v (oMkfn 188 [(xL 0)] []), none), (.v (oMov (xT 0)), none), (.v (oMkfn 188 [(xL 0)] []), none), (.v (oMov (xT 0)), none), (.v (oMkfn 189 [(xL 0)] []), none), (.h (oBsl 176 1 6 [nilfunc] [(1, 1, (xL 8)), (2, 1, (xL 6)), (3, 1, (xL 4)), (4, 1, (xL 2)), (5, 1, (xL 0))]), none), (.v (oMov (xT 0)), none), (.v (oNilc (xL 0)), none), (.v (oFaddr 6 (xL 0)), none), (.v (oFaddr 0 (xL 0)), none), (.v (oLoad (xL 0)), none), (.v (oMov (xT 0)), none), (.v (oNilc (xL 0)), none), (.v (oFaddr 7 (xL 0)), none), (.v (oLoad (xL 0)), none), (.v (oIaddr 7 (xL 4) (xL 0)), none), (.v (oFaddr 1 (xL 0)), none), (.v (oLoad (xL 0)), none), (.v (oIaddr 1 (xL 12) (xL 0)), none), (.v (oLoad (xL 0)), none), (.v (oMov (xL 0)), none)] 0 [none, (some 0)] [(10, 15), (6, 15), (3, 15)])
 kRet))
theorem t98 : FF d98 Tryz.f98 a98 [(.t 1)] := ff Tryz.func98 (by kernel_rfl)
def x98 : XFn := .go a98 1 pd1 [(.t 1)]
def d99 : FD := ⟨99, 2, [4, 5, 6, 7]⟩
def a99 : CodeF := (kSeq (kReg (sS 2 (xK nils) sEnd))
 (kSeq (kReg (sC (cFn 190) [(xT 0), (xT 1)] (sS 3 (xL 0) sEnd)))
 (kSeq (kRegC (fun k => (sV (oBin .eql .no (xT 3) (xK (int .i64 (.negSucc 0)))) k)) (xL 0) (kSeq (kReg (sS 2 (xT 0) sEnd))
 kRet)
 kSkip)
 (kSeq (kSeq (kReg (sV (oBin .add .no (xT 3) (ki 1)) (sS 4 (xL 0) sEnd)))
 (kBlock 0 (kLoop (kSeq (kRegC (fun k => (sV (oLenL (xT 0)) (sV (oBin .lss .no (xT 4) (xL 0)) k))) (xL 0) kSkip
 (kExit 0))
 (kSeq (kBlock 1 (kSeq (kReg (sV (oIaddr 3 (xT 0) (xT 4)) (sV (oLoadN 3 (xL 0)) (sH (oAlloc 180 3 [(int .i64 (.ofNat 0)), (str []), nils]) (sS 5 (xL 0) (sH (oStore 3 (xT 5) (xL 1)) sEnd))))))
 (kRegC (fun k => (sV (oLoadN 3 (xT 5)) (sC (cVal (xT 1)) [(xL 0)] (sV (oUn .not (xL 0)) k)))) (xL 0) (kSeq (kReg (sV (oLoadN 3 (xT 5)) (sV (oIaddr 3 (xT 0) (xT 3)) (sH (oStore 3 (xL 0) (xL 1)) sEnd))))
 (kReg (sV (oMov (xT 3)) (sV (oBin .add .no (xL 0) (ki 1)) (sS 3 (xL 0) sEnd)))))
 kSkip)))
 (kReg (sV (oMov (xT 4)) (sV (oBin .add .no (xL 0) (ki 1)) (sS 4 (xL 0) sEnd)))))))))
 (kSeq (kReg (sV (oSlc 3 (xT 0) (some (xT 3)) none none) (sH (oClr [(int .i64 (.ofNat 0)), (str []), nils] (xL 0)) sEnd)))
 (kSeq (kReg (sV (oSlc 3 (xT 0) none (some (xT 3)) none) (sS 2 (xL 0) sEnd)))
 kRet))))))
theorem t99 : FF d99 Tryz.f99 a99 [(.t 2)] := ff Tryz.func99 (by kernel_rfl)
def x99 : XFn := .go a99 2 pd4 [(.t 2)]
def d100 : FD := ⟨100, 1, [2]⟩
def a100 : CodeF := (kSeq (kReg (sS 1 (xK nils) sEnd))
 (kSeq (kRegC (fun k => (sV (oBin .eql .slice (xT 0) (xK nils)) k)) (xL 0) (kSeq (kReg (sS 1 (xK nils) sEnd))
 kRet)
 kSkip)
 (kSeq (kReg (sH (oBsl 180 3 0 [(int .i64 (.ofNat 0)), (str []), nils] []) (sH (oApp 180 3 (xL 0) (xT 0)) (sS 1 (xL 0) sEnd))))
 kRet)))
theorem t100 : FF d100 Tryz.f100 a100 [(.t 1)] := ff Tryz.func100 (by kernel_rfl)
def x100 : XFn := .go a100 1 pd1 [(.t 1)]
def d101 : FD := ⟨101, 2, [3, 2]⟩
def a101 : CodeF := (kSeq (kReg (sH (oBox 180 3 (xT 0)) (sS 3 (xL 0) (sS 2 (xK (bool false)) sEnd))))
 (kSeq (kReg (sV (oFaddr 0 (xT 3)) (sV (oLoad (xL 0)) (sV (oLoad (xT 1)) (sV (oBin .neq .no (xL 1) (xL 0)) (sS 2 (xL 0) sEnd))))))
 kRet))
theorem t101 : FF d101 Tryz.f101 a101 [(.t 2)] := ff Tryz.func101 (by kernel_rfl)
def x101 : XFn := .go a101 2 pd2 [(.t 2)]
def d102 : FD := ⟨102, 1, [2, 16, 17, 18, 15, 4, 5, 30, 31, 32, 29, 8, 6, 9]⟩
def a102 : CodeF := (kSeq (kReg (sH (oAlloc 169 6 [nils, nils, nils, nils, nils, nils]) (sS 1 (xL 0) sEnd)))
 (kSeq (kSeq (kReg (sV (oNilc (xT 0)) (sV (oFaddr 8 (xL 0)) (sV (oLoad (xL 0)) (sC (cFn 191) [(xL 0)] (sC (cFn 33) [(xL 0)] (sS 5 (xL 0) (sV (oLenL (xT 5)) (sS 2 (xL 0) (sS 3 (ki 0) sEnd))))))))))
 (kBlock 0 (kLoop (kSeq (kReg (sV (oBin .lss .no (xT 3) (xT 2)) (sS 4 (xL 0) sEnd)))
 (kSeq (kCond (xT 4) kSkip
 (kExit 0))
 (kSeq (kBlock 1 (kSeq (kReg (sV (oIaddr 1 (xT 5) (xT 3)) (sV (oLoad (xL 0)) (sS 6 (xL 0) sEnd))))
 (kSeq (kReg (sV (oNilc (xT 0)) (sV (oFaddr 8 (xL 0)) (sV (oLoad (xL 0)) (sV (oLook .str nilmap false (xL 0) (xT 6)) (sS 7 (xL 0) sEnd))))))
 (kSeq (kReg (sS 13 (xK nils) sEnd))
 (kSeq (kSeq (kReg (sC (cFn 193) [(xT 7)] (sC (cFn 192) [(xL 0)] (sS 11 (xL 0) (sV (oLenL (xT 11)) (sS 8 (xL 0) (sS 9 (ki 0) sEnd)))))))
 (kBlock 2 (kLoop (kSeq (kReg (sV (oBin .lss .no (xT 9) (xT 8)) (sS 10 (xL 0) sEnd)))
 (kSeq (kCond (xT 10) kSkip
 (kExit 2))
 (kSeq (kBlock 3 (kSeq (kReg (sV (oIaddr 1 (xT 11) (xT 9)) (sV (oLoad (xL 0)) (sS 12 (xL 0) sEnd))))
 (kReg (sV (oMov (xT 13)) (sV (oLook .int nils false (xT 7) (xT 12)) (sC (cFn 127) [(xL 0)] (sV (oBuild [(int .i64 (.ofNat 0)), nils] [(0, 1, (xT 12)), (1, 1, (xL 0))]) (sH (oBsl 275 2 1 [(int .i64 (.ofNat 0)), nils] [(0, 2, (xL 0))]) (sH (oApp 275 2 (xL 4) (xL 0)) (sS 13 (xL 0) sEnd))))))))))
 (kReg (sV (oBin .add .no (xT 9) (ki 1)) (sS 9 (xL 0) sEnd)))))))))
 (kSeq (kReg (sV (oNilc (xT 0)) (sV (oFaddr 0 (xL 0)) (sV (oFaddr 0 (xL 0)) (sV (oLoad (xL 0)) (sH (oBsl 9 1 1 [(str [])] [(0, 1, (xT 6))]) (sH (oApp 9 1 (xL 1) (xL 0)) (sV (oNilc (xT 0)) (sV (oFaddr 0 (xL 0)) (sV (oFaddr 0 (xL 0)) (sH (oStore 1 (xL 0) (xL 3)) sEnd)))))))))))
 (kDraw [(.v (oMov (xT 0)), none), (.v (oMov (xT 0)), none), (.v (oNilc (xL 0)), none), (.v (oFaddr 0 (xL 0)), none), (.v (oFaddr 1 (xL 0)), none), (.v (oLoad (xL 0)), none), (.v (oMov (xT 13)), none), (.c (cFn 194) [(xL 0)], none), (.h (oBsl 271 1 1 [nils] [(0, 1, (xL 0))]), none), (.h (oApp 271 1 (xL 3) (xL 0)), none), (.v (oNilc (xL 9)), none), (.v (oFaddr 0 (xL 0)), none), (.v (oFaddr 1 (xL 0)), none), (.h (oStore 1 (xL 0) (xL 3)), none)] 0 [none, none, none, none, none, none, none, none, none, none, none, none, none, none, none] [(8, 6), (8, 5)])))))))
 (kReg (sV (oBin .add .no (xT 3) (ki 1)) (sS 3 (xL 0) sEnd)))))))))
 (kSeq (kReg (sV (oNilc (xT 0)) (sV (oFaddr 0 (xL 0)) (sS 14 (xL 0) sEnd))))
 (kSeq (kDraw [(.v (oMov (xT 14)), none), (.v (oMov (xT 14)), none), (.v (oMov (xT 14)), none), (.v (oMov (xT 14)), none), (.v (oMov (xT 14)), none), (.v (oMov (xT 14)), none), (.v (oMov (xT 14)), none), (.v (oNilc (xL 0)), none), (.v (oFaddr 0 (xL 0)), none), (.v (oLoad (xL 0)), none), (.c (cFn 30) [(xL 0)], none), (.v (oMov (xT 14)), none), (.v (oNilc (xL 0)), none), (.v (oFaddr 1 (xL 0)), none), (.v (oLoad (xL 0)), none), (.c (cFn 195) [(xL 0)], none), (.v (oMov (xT 14)), none), (.v (oNilc (xL 0)), none), (.v (oFaddr 2 (xL 0)), none), (.v (oLoad (xL 0)), none), (.c (cFn 184) [(xL 0)], none), (.v (oMov (xT 14)), none), (.v (oNilc (xL 0)), none), (.v (oFaddr 3 (xL 0)), none), (.v (oLoad (xL 0)), none), (.c (cFn 196) [(xL 0)], none), (.v (oMov (xT 14)), none), (.v (oNilc (xL 0)), none), (.v (oFaddr 4 (xL 0)), none), (.v (oLoad (xL 0)), none), (.c (cFn 197) [(xL 0)], none), (.v (oMov (xT 14)), none), (.v (oNilc (xL 0)), none), (.v (oFaddr 5 (xL 0)), none), (.v (oLoad (xL 0)), none), (.c (cFn 198) [(xL 0)], none), (.v (oNilc (xL 35)), none), (.v (oFaddr 0 (xL 0)), none), (.h (oStore 1 (xL 0) (xL 27)), none), (.v (oNilc (xL 37)), none), (.v (oFaddr 1 (xL 0)), none), (.h (oStore 1 (xL 0) (xL 25)), none), (.v (oNilc (xL 39)), none), (.v (oFaddr 2 (xL 0)), none), (.h (oStore 1 (xL 0) (xL 23)), none), (.v (oNilc (xL 41)), none), (.v (oFaddr 3 (xL 0)), none), (.h (oStore 1 (xL 0) (xL 21)), none), (.v (oNilc (xL 43)), none), (.v (oFaddr 4 (xL 0)), none), (.h (oStore 1 (xL 0) (xL 19)), none), (.v (oNilc (xL 45)), none), (.v (oFaddr 5 (xL 0)), none), (.h (oStore 1 (xL 0) (xL 17)), none)] 0 [none, none, none, none, none, none, none, none, none, none, none, none, none, none, none] [(39, 43), (34, 43), (34, 38), (29, 43), (29, 38), (29, 33), (24, 43), (24, 38), (24, 33), (24, 28), (19, 43), (19, 38), (19, 33), (19, 28), (19, 23)])
 (kSeq (kReg (sV (oNilc (xT 0)) (sV (oFaddr 0 (xL 0)) (sV (oLoadN 6 (xL 0)) (sH (oStore 6 (xT 1) (xL 0)) sEnd)))))
 kRet)))))
theorem t102 : FF d102 Tryz.f102 a102 [(.cell 1 (some 6))] := ff Tryz.func102 (by kernel_rfl)
def x102 : XFn := .go a102 1 pd14 [(.cell 1 (some 6))]
def d103 : FD := ⟨103, 1, [2]⟩
def a103 : CodeF := (kSeq (kReg (sS 1 (xK nils) sEnd))
 (kSeq (kReg (sV (oLenL (xT 0)) (sV (oLenL (xT 0)) (sV (oSlc 1 (xT 0) none (some (xL 1)) (some (xL 0))) (sS 1 (xL 0) sEnd)))))
 kRet))
theorem t103 : FF d103 Tryz.f103 a103 [(.t 1)] := ff Tryz.func103 (by kernel_rfl)
def x103 : XFn := .go a103 1 pd1 [(.t 1)]
def d104 : FD := ⟨104, 1, [2]⟩
def a104 : CodeF := (kSeq (kReg (sS 1 (xK nils) sEnd))
 (kSeq (kReg (sV (oLenL (xT 0)) (sV (oLenL (xT 0)) (sV (oSlc 1 (xT 0) none (some (xL 1)) (some (xL 0))) (sS 1 (xL 0) sEnd)))))
 kRet))
theorem t104 : FF d104 Tryz.f104 a104 [(.t 1)] := ff Tryz.func104 (by kernel_rfl)
def x104 : XFn := .go a104 1 pd1 [(.t 1)]
def d105 : FD := ⟨105, 1, [2]⟩
def a105 : CodeF := (kSeq (kReg (sS 1 (xK nils) sEnd))
 (kSeq (kReg (sV (oLenL (xT 0)) (sV (oLenL (xT 0)) (sV (oSlc 6 (xT 0) none (some (xL 1)) (some (xL 0))) (sS 1 (xL 0) sEnd)))))
 kRet))
theorem t105 : FF d105 Tryz.f105 a105 [(.t 1)] := ff Tryz.func105 (by kernel_rfl)
def x105 : XFn := .go a105 1 pd1 [(.t 1)]
def d106 : FD := ⟨106, 1, [2, 1]⟩
def a106 : CodeF := (kSeq (kReg (sH (oBox 149 1 (xT 0)) (sS 2 (xL 0) (sS 1 (xK nilfunc) sEnd))))
 (kSeq (kReg (sV (oMkfn 199 [] [(xT 2)]) (sS 1 (xL 0) sEnd)))
 kRet))
theorem t106 : FF d106 Tryz.f106 a106 [(.t 1)] := ff Tryz.func106 (by kernel_rfl)
def x106 : XFn := .go a106 1 pd2 [(.t 1)]
def d107 : FD := ⟨107, 2, [4]⟩
def a107 : CodeF := (kSeq (kReg (sS 2 (xK nils) sEnd))
 (kSeq (kRegC (fun k => (sV (oBin .neq .no (xT 1) (ki 0)) k)) (xL 0) (kReg (sV (oBuild [(int .i64 (.ofNat 0))] [(0, 1, (xT 1))]) (sV (oMkif 155 (xL 0)) (sPan (xL 0)))))
 kSkip)
 (kSeq (kReg (sS 2 (xT 0) sEnd))
 kRet)))
theorem t107 : FF d107 Tryz.f107 a107 [(.t 2)] := ff Tryz.func107 (by kernel_rfl)
def x107 : XFn := .go a107 2 pd1 [(.t 2)]
def d108 : FD := ⟨108, 2, [4, 5, 8, 6, 7, 49, 9, 10, 58, 59, 60, 11, 69, 70, 71, 68, 14, 12]⟩
def a108 : CodeF := (kSeq (kReg (sS 2 (xK nils) (sS 3 (ki 0) sEnd)))
 (kSeq (kRegC (fun k => (sV (oLenL (xT 1)) (sV (oBin .gtr .no (xL 0) (ki 16777216)) k))) (xL 0) (kSeq (kReg (sS 2 (xK nils) (sS 3 (ki 3) sEnd)))
 kRet)
 kSkip)
 (kSeq (kReg (sC (cFn 200) [(xT 1)] (sV (oExt 0 (xL 0)) (sV (oExt 1 (xL 1)) (sS 5 (xL 1) (sS 6 (xL 0) sEnd))))))
 (kSeq (kReg (sV (oLenL (xT 1)) (sV (oBin .sub .no (xL 0) (ki 4)) (sS 4 (xL 0) sEnd))))
 (kSeq (kSeq (kDraw [(.v (oMov (xT 6)), none), (.v (oUn .not (xL 0)), none), (.v (oMov (xL 0)), none), (.v (oMov (xT 5)), (some ((xL 0), false))), (.v (oMov (xT 0)), (some ((xL 1), false))), (.v (oBin .neq .no (xL 1) (xL 0)), (some ((xL 2), false))), (.v (oPick (xL 3) (xK (bool true)) (xL 0)), none), (.v (oMov (xL 0)), none), (.v (oMov (xT 4)), (some ((xL 0), false))), (.v (oBin .lss .no (xL 0) (ki 4)), (some ((xL 1), false))), (.v (oPick (xL 2) (xK (bool true)) (xL 0)), none), (.v (oMov (xL 0)), none), (.v (oMov (xT 1)), (some ((xL 0), false))), (.v (oMov (xT 4)), (some ((xL 1), false))), (.v (oSlc 1 (xL 1) (some (xL 0)) none none), (some ((xL 2), false))), (.v (oMov (xT 1)), (some ((xL 3), false))), (.v (oMov (xT 4)), (some ((xL 4), false))), (.v (oSlc 1 (xL 1) none (some (xL 0)) none), (some ((xL 5), false))), (.h (oBsl 51 1 1 [nils] [(0, 1, (xL 0))]), (some ((xL 6), false))), (.c (cFn 174) [(xL 0)], (some ((xL 7), false))), (.c (cFn 173) [(xL 0)], (some ((xL 8), false))), (.c (cFn 142) [(xL 6), (xL 0)], (some ((xL 9), false))), (.v (oUn .not (xL 0)), (some ((xL 10), false))), (.v (oPick (xL 11) (xK (bool true)) (xL 0)), none)] 0 [none, none, none, none, none, none, none, (some 0), none, none, none, none, none, none, none, none, none, none, none, none] [])
 (kCond (xT 7) (kSeq (kReg (sS 2 (xK nils) (sS 3 (ki 20) sEnd)))
 kRet)
 kSkip))
 (kSeq (kReg (sV (oSlc 1 (xT 1) (some (ki 4)) (some (xT 4)) none) (sC (cFn 109) [(xL 0)] (sS 8 (xL 0) sEnd))))
 (kSeq (kReg (sC (cFn 110) [(xT 8), (ki 1024)] (sH (oMksl 3 1 [(int .i64 (.ofNat 0))] (xL 0) (xL 0)) (sS 9 (xL 0) sEnd))))
 (kSeq (kSeq (kReg (sV (oLenL (xT 9)) (sS 10 (xL 0) (sS 11 (ki 0) sEnd))))
 (kBlock 0 (kLoop (kSeq (kReg (sV (oBin .lss .no (xT 11) (xT 10)) (sS 12 (xL 0) sEnd)))
 (kSeq (kCond (xT 12) kSkip
 (kExit 0))
 (kSeq (kBlock 1 (kSeq (kReg (sS 13 (xT 11) sEnd))
 (kReg (sC (cFn 110) [(xT 8), (ki 16777216)] (sV (oIaddr 1 (xT 9) (xT 13)) (sH (oStore 1 (xL 0) (xL 1)) sEnd))))))
 (kReg (sV (oBin .add .no (xT 11) (ki 1)) (sS 11 (xL 0) sEnd)))))))))
 (kSeq (kReg (sS 19 (xK nils) sEnd))
 (kSeq (kSeq (kReg (sS 17 (xT 9) (sV (oLenL (xT 17)) (sS 14 (xL 0) (sS 15 (ki 0) sEnd)))))
 (kBlock 2 (kLoop (kSeq (kReg (sV (oBin .lss .no (xT 15) (xT 14)) (sS 16 (xL 0) sEnd)))
 (kSeq (kCond (xT 16) kSkip
 (kExit 2))
 (kSeq (kBlock 3 (kSeq (kReg (sV (oIaddr 1 (xT 17) (xT 15)) (sV (oLoad (xL 0)) (sS 18 (xL 0) sEnd))))
 (kReg (sV (oMov (xT 19)) (sC (cFn 112) [(xT 8), (xT 18)] (sH (oBsl 51 1 1 [nils] [(0, 1, (xL 0))]) (sH (oApp 51 1 (xL 2) (xL 0)) (sS 19 (xL 0) sEnd))))))))
 (kReg (sV (oBin .add .no (xT 15) (ki 1)) (sS 15 (xL 0) sEnd)))))))))
 (kSeq (kRegC (fun k => (sC (cFn 135) [(xT 8)] (sV (oBin .neq .no (xL 0) (ki 0)) k))) (xL 0) (kSeq (kReg (sS 2 (xK nils) (sS 3 (ki 20) sEnd)))
 kRet)
 kSkip)
 (kSeq (kReg (sC (cFn 201) [(xT 19)] (sS 2 (xL 0) (sS 3 (ki 0) sEnd))))
 kRet))))))))))))
theorem t108 : FF d108 Tryz.f108 a108 [(.t 2), (.t 3)] := ff Tryz.func108 (by kernel_rfl)
def x108 : XFn := .go a108 2 pd18 [(.t 2), (.t 3)]
def d109 : FD := ⟨109, 1, [2]⟩
def a109 : CodeF := (kSeq (kReg (sS 1 (xK nilptr) sEnd))
 (kSeq (kReg (sC (cFn 116) [(xT 0)] (sV (oBuild [nils, (int .i64 (.ofNat 0)), (int .i64 (.ofNat 0))] [(0, 1, (xL 0))]) (sH (oBox 288 3 (xL 0)) (sS 1 (xL 0) sEnd)))))
 kRet))
theorem t109 : FF d109 Tryz.f109 a109 [(.t 1)] := ff Tryz.func109 (by kernel_rfl)
def x109 : XFn := .go a109 1 pd1 [(.t 1)]
def d110 : FD := ⟨110, 2, [4, 3, 2]⟩
def a110 : CodeF := (kSeq (kReg (sH (oBox 190 1 (xT 0)) (sS 4 (xL 0) (sH (oBox 3 1 (xT 1)) (sS 3 (xL 0) (sS 2 (ki 0) sEnd))))))
 (kSeq (kReg (sV (oLoad (xT 4)) (sV (oMkfn 203 [] [(xT 4), (xT 3)]) (sC (cFn 202) [(xL 1), (xL 0)] (sS 2 (xL 0) sEnd)))))
 kRet))
theorem t110 : FF d110 Tryz.f110 a110 [(.t 2)] := ff Tryz.func110 (by kernel_rfl)
def x110 : XFn := .go a110 2 pd3 [(.t 2)]
def d111 : FD := ⟨111, 2, [4, 5, 6, 7, 8, 11, 9, 12, 13, 84, 86, 87, 88, 85, 15, 10, 16]⟩
def a111 : CodeF := (kSeq (kReg (sS 2 (xK nils) (sS 3 (ki 0) (sS 4 (ki 0) sEnd))))
 (kSeq (kRegC (fun k => (sV (oBin .lss .no (xT 1) (ki 0)) (sG (xL 0) false (sV (oMov (xT 1))) (sG (xL 1) false (sV (oBin .gtr .no (xL 0) (ki 1048576))) (sV (oPick (xL 2) (xK (bool true)) (xL 0)) k))))) (xL 0) (kSeq (kReg (sS 2 (xK nils) (sS 3 (ki 0) (sS 4 (ki 1) sEnd))))
 kRet)
 kSkip)
 (kSeq (kReg (sS 5 (xK nils) sEnd))
 (kSeq (kReg (sC (cFn 109) [(xT 0)] (sS 6 (xL 0) sEnd)))
 (kSeq (kBlock 0 (kLoop (kSeq (kRegC (fun k => (sV (oLenL (xT 5)) (sV (oBin .lss .no (xL 0) (xT 1)) k))) (xL 0) kSkip
 (kExit 0))
 (kBlock 1 (kSeq (kReg (sV (oLenL (xT 5)) (sV (oBin .sub .no (xT 1) (xL 0)) (sV (oMm false (xL 0) [(ki 128)]) (sS 8 (xL 0) sEnd)))))
 (kSeq (kReg (sC (cFn 205) [(xT 6)] (sS 17 (xL 0) sEnd)))
 (kSeq (kReg (sC (cFn 112) [(xT 6), (ki 1)] (sS 7 (xL 0) sEnd)))
 (kSeq (kRegC (fun k => (sC (cFn 115) [(xT 6)] (sV (oBin .neq .no (xL 0) (ki 0)) (sG (xL 0) false (sV (oMov (xT 7))) (sG (xL 1) false (sV (oIaddr 1 (xL 0) (ki 0))) (sG (xL 2) false (sV (oLoad (xL 0))) (sG (xL 3) false (sV (oBin .gtr .no (xL 0) (xK (int .u8 (.ofNat 64))))) (sV (oPick (xL 4) (xK (bool true)) (xL 0)) k)))))))) (xL 0) (kSeq (kReg (sS 2 (xK nils) (sS 3 (ki 0) (sS 4 (ki 20) sEnd))))
 kRet)
 kSkip)
 (kSeq (kDraw [(.v (oMov (xT 6)), none), (.v (oMov (xT 7)), none), (.v (oIaddr 1 (xL 0) (ki 0)), none), (.v (oLoad (xL 0)), none), (.v (oConv .i64 (xL 0)), none), (.v (oMov (xT 8)), none), (.c (cFn 207) [(xL 1), (xL 0)], none), (.c (cFn 112) [(xL 6), (xL 0)], none), (.v (oMov (xT 7)), none), (.v (oIaddr 1 (xL 0) (ki 0)), none), (.v (oLoad (xL 0)), none), (.v (oConv .i64 (xL 0)), none), (.v (oMov (xT 8)), none), (.c (cFn 206) [(xL 5), (xL 1), (xL 0)], none), (.v (oMov (xL 0)), none), (.v (oExt 0 (xL 0)), none), (.v (oExt 1 (xL 1)), none), (.v (oMov (xL 1)), none), (.v (oMov (xL 1)), none)] 0 [none, none, none, none, none, none, none, none, none, (some 1), (some 0), none, none, none, none, none, none, none, none] [(8, 12), (8, 11)])
 (kSeq (kSeq (kDraw [(.v (oMov (xT 6)), none), (.c (cFn 115) [(xL 0)], none), (.v (oBin .neq .no (xL 0) (ki 0)), none), (.v (oMov (xL 0)), none), (.v (oMov (xT 10)), (some ((xL 0), false))), (.v (oBin .neq .no (xL 0) (ki 0)), (some ((xL 1), false))), (.v (oPick (xL 2) (xK (bool true)) (xL 0)), none), (.v (oMov (xL 0)), none), (.v (oMov (xT 9)), (some ((xL 0), false))), (.c (cFn 208) [(xL 0)], (some ((xL 1), false))), (.v (oMov (xT 7)), (some ((xL 2), false))), (.v (oIaddr 1 (xL 0) (ki 0)), (some ((xL 3), false))), (.v (oLoad (xL 0)), (some ((xL 4), false))), (.v (oConv .i64 (xL 0)), (some ((xL 5), false))), (.v (oBin .neq .no (xL 4) (xL 0)), (some ((xL 6), false))), (.v (oPick (xL 7) (xK (bool true)) (xL 0)), none), (.v (oMov (xL 0)), none), (.v (oMov (xT 9)), (some ((xL 0), false))), (.c (cFn 209) [(xL 0)], (some ((xL 1), false))), (.v (oBin .neq .no (xL 0) (xK (int .u64 (.ofNat 0)))), (some ((xL 2), false))), (.v (oPick (xL 3) (xK (bool true)) (xL 0)), none)] 0 [none, none, none, none, none, none, none, none, none, none, none, (some 0), none, none, none, none, none, none, none] [(8, 11)])
 (kCond (xT 11) (kSeq (kReg (sS 2 (xK nils) (sS 3 (ki 0) (sS 4 (ki 20) sEnd))))
 kRet)
 kSkip))
 (kSeq (kReg (sS 15 (xT 9) (sV (oLenL (xT 15)) (sS 12 (xL 0) (sS 13 (ki 0) sEnd)))))
 (kBlock 2 (kLoop (kSeq (kReg (sV (oBin .lss .no (xT 13) (xT 12)) (sS 14 (xL 0) sEnd)))
 (kSeq (kCond (xT 14) kSkip
 (kExit 2))
 (kSeq (kBlock 3 (kSeq (kReg (sV (oIaddr 1 (xT 15) (xT 13)) (sV (oLoad (xL 0)) (sS 16 (xL 0) sEnd))))
 (kSeq (kReg (sV (oConv .u64 (xT 17)) (sV (oBin .add .no (xL 0) (xT 16)) (sV (oConv .i64 (xL 0)) (sS 18 (xL 0) sEnd)))))
 (kSeq (kRegC (fun k => (sV (oBin .lss .no (xT 18) (xT 17)) k)) (xL 0) (kSeq (kReg (sS 2 (xK nils) (sS 3 (ki 0) (sS 4 (ki 20) sEnd))))
 kRet)
 kSkip)
 (kReg (sV (oMov (xT 5)) (sH (oBsl 2 1 1 [(int .i64 (.ofNat 0))] [(0, 1, (xT 18))]) (sH (oApp 2 1 (xL 1) (xL 0)) (sS 5 (xL 0) sEnd)))))))))
 (kReg (sV (oBin .add .no (xT 13) (ki 1)) (sS 13 (xL 0) sEnd)))))))))))))))))))
 (kSeq (kReg (sC (cFn 184) [(xT 5)] (sV (oLenL (xT 0)) (sC (cFn 113) [(xT 6)] (sV (oBin .sub .no (xL 1) (xL 0)) (sS 2 (xL 3) (sS 3 (xL 0) (sS 4 (ki 0) sEnd))))))))
 kRet))))))
theorem t111 : FF d111 Tryz.f111 a111 [(.t 2), (.t 3), (.t 4)] := ff Tryz.func111 (by kernel_rfl)
def x111 : XFn := .go a111 2 pd17 [(.t 2), (.t 3), (.t 4)]
def d112 : FD := ⟨112, 2, [4, 3]⟩
def a112 : CodeF := (kSeq (kReg (sH (oBox 3 1 (xT 1)) (sS 3 (xL 0) (sS 2 (xK nils) sEnd))))
 (kSeq (kReg (sV (oMkfn 211 [] [(xT 3)]) (sC (cFn 210) [(xT 0), (xL 0)] (sS 2 (xL 0) sEnd))))
 kRet))
theorem t112 : FF d112 Tryz.f112 a112 [(.t 2)] := ff Tryz.func112 (by kernel_rfl)
def x112 : XFn := .go a112 2 pd2 [(.t 2)]
def d113 : FD := ⟨113, 1, [2]⟩
def a113 : CodeF := (kSeq (kReg (sS 1 (ki 0) sEnd))
 (kSeq (kRegC (fun k => (sV (oBin .eql .ptr (xT 0) (xK nilptr)) k)) (xL 0) (kSeq (kReg (sS 1 (ki 0) sEnd))
 kRet)
 kSkip)
 (kSeq (kDraw [(.v (oMov (xT 0)), none), (.v (oNilc (xL 0)), none), (.v (oFaddr 0 (xL 0)), none), (.v (oLoad (xL 0)), none), (.v (oLenL (xL 0)), none), (.v (oMov (xT 0)), none), (.v (oNilc (xL 0)), none), (.v (oFaddr 1 (xL 0)), none), (.v (oLoad (xL 0)), none), (.v (oBin .sub .no (xL 4) (xL 0)), none), (.v (oMov (xL 0)), none)] 0 [none, (some 0)] [])
 kRet)))
theorem t113 : FF d113 Tryz.f113 a113 [(.t 1)] := ff Tryz.func113 (by kernel_rfl)
def x113 : XFn := .go a113 1 pd1 [(.t 1)]
def d114 : FD := ⟨114, 2, [4]⟩
def a114 : CodeF := (kSeq (kReg (sS 2 (xK nils) sEnd))
 (kSeq (kRegC (fun k => (sV (oBin .neq .no (xT 1) (ki 0)) k)) (xL 0) (kReg (sV (oBuild [(int .i64 (.ofNat 0))] [(0, 1, (xT 1))]) (sV (oMkif 155 (xL 0)) (sPan (xL 0)))))
 kSkip)
 (kSeq (kReg (sS 2 (xT 0) sEnd))
 kRet)))
theorem t114 : FF d114 Tryz.f114 a114 [(.t 2)] := ff Tryz.func114 (by kernel_rfl)
def x114 : XFn := .go a114 2 pd1 [(.t 2)]
end
end Go.Proofs.YtnljeinfkkeofaaGreatDoor
