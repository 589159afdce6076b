import Derived.Test.YthaaihgllpehbaaGreatDoorP
import Derived.Test.YthaaihgllpehbaaGreatDoorProg
import Derived.KernelRfl
/- The functions of the program as the interpreter has them; each is the program's, by the kernel. -/
set_option maxRecDepth 1000000
namespace Go.Proofs.YthaaihgllpehbaaGreatDoor
open Go Go.Ai AVal
noncomputable section
def d210 : FD := ⟨210, 1, [2, 3, 12, 13, 14, 11, 6, 4]⟩
def a210 : CodeF := (kSeq (kReg (sS 1 (xK nils) (sS 2 (xK (bool false)) sEnd)))
 (kSeq (kReg (sV (oLenL (xT 0)) (sV (oMm false (xL 0) [(ki 16384)]) (sH (oMksl 136 1 [nils] (ki 0) (xL 0)) (sS 8 (xL 0) sEnd)))))
 (kSeq (kSeq (kReg (sS 6 (xT 0) (sV (oLenL (xT 6)) (sS 3 (xL 0) (sS 4 (ki 0) sEnd)))))
 (kBlock 0 (kLoop (kSeq (kReg (sV (oBin .lss .no (xT 4) (xT 3)) (sS 5 (xL 0) sEnd)))
 (kSeq (kCond (xT 5) kSkip
 (kExit 0))
 (kSeq (kBlock 1 (kSeq (kReg (sV (oIaddr 1 (xT 6) (xT 4)) (sV (oLoad (xL 0)) (sS 7 (xL 0) sEnd))))
 (kSeq (kRegC (fun k => (sV (oLenL (xT 0)) (sV (oBin .gtr .no (xL 0) (ki 16384)) (sG (xL 0) false (sV (oMov (xT 7))) (sG (xL 1) false (sV (oLenL (xL 0))) (sG (xL 2) false (sV (oBin .gtr .no (xL 0) (ki 64))) (sV (oPick (xL 3) (xK (bool true)) (xL 0)) k))))))) (xL 0) (kSeq (kReg (sS 1 (xK nils) (sS 2 (xK (bool false)) sEnd)))
 kRet)
 kSkip)
 (kSeq (kReg (sV (oMov (xT 7)) (sC (cFn 251) [(xL 0)] (sS 7 (xL 0) sEnd))))
 (kSeq (kReg (sC (cFn 181) [(xT 7)] sEnd))
 (kReg (sV (oMov (xT 8)) (sH (oBsl 136 1 1 [nils] [(0, 1, (xT 7))]) (sH (oApp 136 1 (xL 1) (xL 0)) (sS 8 (xL 0) sEnd))))))))))
 (kReg (sV (oBin .add .no (xT 4) (ki 1)) (sS 4 (xL 0) sEnd)))))))))
 (kSeq (kReg (sS 1 (xT 8) (sS 2 (xK (bool true)) sEnd)))
 kRet))))
theorem t210 : FF d210 Tryz.f210 a210 [(.t 1), (.t 2)] := ff Tryz.func210 (by kernel_rfl)
def x210 : XFn := .go a210 1 pd8 [(.t 1), (.t 2)]
def d211 : FD := ⟨211, 2, [4]⟩
def a211 : CodeF := (kSeq (kReg (sS 2 (xK nils) sEnd))
 (kSeq (kReg (sV (oLenS (xT 1)) (sV (oConv .u64 (xL 0)) (sC (cFn 82) [(xT 0), (xL 0)] (sH (oApps 5 (xL 0) (xT 1)) (sC (cFn 27) [(xL 0)] (sS 2 (xL 0) sEnd)))))))
 kRet))
theorem t211 : FF d211 Tryz.f211 a211 [(.t 2)] := ff Tryz.func211 (by kernel_rfl)
def x211 : XFn := .go a211 2 pd1 [(.t 2)]
def d212 : FD := ⟨212, 2, [4, 5, 6, 8, 7, 9]⟩
def a212 : CodeF := (kSeq (kReg (sS 2 (ki 0) (sS 3 (xK (bool false)) sEnd)))
 (kSeq (kReg (sV (oLenL (xT 0)) (sS 4 (xL 0) sEnd)))
 (kSeq (kReg (sS 6 (ki 0) (sS 5 (xT 4) sEnd)))
 (kSeq (kBlock 0 (kLoop (kSeq (kRegC (fun k => (sV (oBin .lss .no (xT 6) (xT 5)) k)) (xL 0) kSkip
 (kExit 0))
 (kBlock 1 (kSeq (kReg (sV (oBin .add .no (xT 6) (xT 5)) (sV (oConv .u64 (xL 0)) (sV (oBin .shr .no (xL 0) (xK (int .u64 (.ofNat 1)))) (sV (oConv .i64 (xL 0)) (sS 7 (xL 0) sEnd))))))
 (kRegC (fun k => (sV (oIaddr 1 (xT 0) (xT 7)) (sV (oLoad (xL 0)) (sC (cFn 252) [(xL 0), (xT 1)] k)))) (xL 0) (kReg (sV (oBin .add .no (xT 7) (ki 1)) (sS 6 (xL 0) sEnd)))
 (kReg (sS 5 (xT 7) sEnd))))))))
 (kSeq (kReg (sV (oBin .lss .no (xT 6) (xT 4)) (sG (xL 0) true (sV (oMov (xT 0))) (sG (xL 1) true (sV (oMov (xT 6))) (sG (xL 2) true (sV (oIaddr 1 (xL 1) (xL 0))) (sG (xL 3) true (sV (oLoad (xL 0))) (sG (xL 4) true (sV (oMov (xT 1))) (sG (xL 5) true (sV (oBin .eql .no (xL 1) (xL 0))) (sG (xL 6) true (sV (oMov (xL 0))) (sG (xL 0) false (sV (oMov (xT 0))) (sG (xL 1) false (sV (oMov (xT 6))) (sG (xL 2) false (sV (oIaddr 1 (xL 1) (xL 0))) (sG (xL 3) false (sV (oLoad (xL 0))) (sG (xL 4) false (sC (cFn 253) [(xL 0)]) (sG (xL 5) false (sV (oMov (xL 0))) (sG (xL 0) true (sV (oMov (xT 1))) (sG (xL 1) true (sC (cFn 253) [(xL 0)]) (sG (xL 8) false (sV (oPick (xL 2) (xL 0) (xK (bool false)))) (sG (xL 16) true (sV (oPick (xL 9) (xK (bool true)) (xL 0))) (sV (oPick (xL 17) (xL 0) (xK (bool false))) (sS 2 (xT 6) (sS 3 (xL 0) sEnd))))))))))))))))))))))
 kRet)))))
theorem t212 : FF d212 Tryz.f212 a212 [(.t 2), (.t 3)] := ff Tryz.func212 (by kernel_rfl)
def x212 : XFn := .go a212 2 pd6 [(.t 2), (.t 3)]
def d213 : FD := ⟨213, 1, [2, 19, 20, 21, 18, 8, 7, 4, 5, 6, 3]⟩
def a213 : CodeF := (kSeq (kReg (sS 1 (xK nils) sEnd))
 (kSeq (kReg (sV (oLenL (xT 0)) (sV (oConv .u64 (xL 0)) (sC (cFn 82) [(xK nils), (xL 0)] (sS 11 (xL 0) sEnd)))))
 (kSeq (kReg (sV (oLenL (xT 0)) (sV (oBin .add .no (xL 0) (ki 7)) (sV (oBin .quo .no (xL 0) (ki 8)) (sH (oMksl 5 1 [(int .u8 (.ofNat 0))] (xL 0) (xL 0)) (sS 8 (xL 0) sEnd))))))
 (kSeq (kReg (sS 9 (xK nils) (sS 10 (xK nils) sEnd)))
 (kSeq (kSeq (kReg (sS 5 (xT 0) (sV (oLenL (xT 5)) (sS 2 (xL 0) (sS 3 (ki 0) sEnd)))))
 (kBlock 0 (kLoop (kSeq (kReg (sV (oBin .lss .no (xT 3) (xT 2)) (sS 4 (xL 0) sEnd)))
 (kSeq (kCond (xT 4) kSkip
 (kExit 0))
 (kSeq (kBlock 1 (kSeq (kReg (sV (oIaddr 1 (xT 5) (xT 3)) (sV (oLoad (xL 0)) (sS 7 (xT 3) (sS 6 (xL 0) sEnd)))))
 (kRegC (fun k => (sV (oLenL (xT 6)) (sV (oBin .gtr .no (xL 0) (ki 0)) k))) (xL 0) (kSeq (kDraw [(.v (oMov (xT 8)), none), (.v (oMov (xT 7)), none), (.v (oBin .quo .no (xL 0) (ki 8)), none), (.v (oIaddr 1 (xL 2) (xL 0)), none), (.v (oLoad (xL 0)), none), (.v (oMov (xT 7)), none), (.v (oBin .rem .no (xL 0) (ki 8)), none), (.v (oBin .shl .no (xK (int .u8 (.ofNat 1))) (xL 0)), none), (.v (oBin .or .no (xL 3) (xL 0)), none), (.v (oIaddr 1 (xL 8) (xL 6)), none), (.h (oStore 1 (xL 0) (xL 1)), none)] 0 [none, none, none, none, none, none, none, none, none, none, none, none] [])
 (kSeq (kReg (sV (oMov (xT 9)) (sV (oLenL (xT 6)) (sV (oBin .sub .no (xL 0) (ki 1)) (sH (oBsl 2 1 1 [(int .i64 (.ofNat 0))] [(0, 1, (xL 0))]) (sH (oApp 2 1 (xL 3) (xL 0)) (sS 9 (xL 0) sEnd)))))))
 (kReg (sV (oMov (xT 10)) (sH (oApp 2 1 (xL 0) (xT 6)) (sS 10 (xL 0) sEnd))))))
 kSkip)))
 (kReg (sV (oBin .add .no (xT 3) (ki 1)) (sS 3 (xL 0) sEnd)))))))))
 (kSeq (kReg (sV (oMov (xT 11)) (sH (oApp 5 1 (xL 0) (xT 8)) (sS 11 (xL 0) sEnd))))
 (kSeq (kReg (sV (oMov (xT 11)) (sC (cFn 83) [(xT 9)] (sH (oApp 5 1 (xL 1) (xL 0)) (sS 11 (xL 0) sEnd)))))
 (kSeq (kReg (sC (cFn 83) [(xT 10)] (sH (oApp 5 1 (xT 11) (xL 0)) (sS 1 (xL 0) sEnd))))
 kRet))))))))
theorem t213 : FF d213 Tryz.f213 a213 [(.t 1)] := ff Tryz.func213 (by kernel_rfl)
def x213 : XFn := .go a213 1 pd11 [(.t 1)]
def d217 : FD := ⟨217, 2, [4]⟩
def a217 : CodeF := (kSeq (kReg (sS 2 (xK nils) sEnd))
 (kSeq (kRegC (fun k => (sV (oBin .lss .no (xT 1) (ki 0)) k)) (xL 0) (kReg (sV (oMkif 9 (xK (str [99, 97, 110, 110, 111, 116, 32, 98, 101, 32, 110, 101, 103, 97, 116, 105, 118, 101]))) (sPan (xL 0))))
 kSkip)
 (kSeq (kSeq (kReg (sV (oMov (xT 1)) (sV (oCap (xT 0)) (sV (oLenL (xT 0)) (sV (oBin .sub .no (xL 1) (xL 0)) (sV (oBin .sub .no (xL 3) (xL 0)) (sS 1 (xL 0) sEnd)))))))
 (kRegC (fun k => (sV (oBin .gtr .no (xT 1) (ki 0)) k)) (xL 0) (kReg (sV (oMov (xT 0)) (sV (oMov (xT 0)) (sV (oCap (xL 0)) (sV (oSlc 1 (xL 2) none (some (xL 0)) none) (sH (oAppm 5 1 [(int .u8 (.ofNat 0))] (xL 0) (xT 1)) (sV (oMov (xT 0)) (sV (oLenL (xL 0)) (sV (oSlc 1 (xL 2) none (some (xL 0)) none) (sS 0 (xL 0) sEnd))))))))))
 kSkip))
 (kSeq (kReg (sS 2 (xT 0) sEnd))
 kRet))))
theorem t217 : FF d217 Tryz.f217 a217 [(.t 2)] := ff Tryz.func217 (by kernel_rfl)
def x217 : XFn := .go a217 2 pd1 [(.t 2)]
def d224 : FD := ⟨224, 1, [2]⟩
def a224 : CodeF := (kSeq (kReg (sS 1 (ki 0) sEnd))
 (kSeq (kRegC (fun k => (sV (oBin .eql .no (xT 0) (xK (int .u64 (.ofNat 0)))) k)) (xL 0) (kSeq (kReg (sS 1 (ki 64) sEnd))
 kRet)
 kSkip)
 (kSeq (kReg (sV (oUn .neg (xT 0)) (sV (oBin .and .no (xT 0) (xL 0)) (sV (oBin .mul .no (xL 0) (xK (int .u64 (.ofNat 285870213051353865)))) (sV (oBin .shr .no (xL 0) (xK (int .u64 (.ofNat 58)))) (sV (oIaddra 64 1 (xK (ptr 0 0)) (xL 0)) (sV (oLoad (xL 0)) (sV (oConv .i64 (xL 0)) (sS 1 (xL 0) sEnd)))))))))
 kRet)))
theorem t224 : FF d224 Tryz.f224 a224 [(.t 1)] := ff Tryz.func224 (by kernel_rfl)
def x224 : XFn := .go a224 1 pd1 [(.t 1)]
def d232 : FD := ⟨232, 4, [10, 8, 12, 11, 9, 87, 13, 15, 14, 17, 16, 18]⟩
def a232 : CodeF := (kSeq (kReg (sS 5 (xK (bool true)) sEnd))
 (kSeq (kReg (sS 8 (xK (bool true)) sEnd))
 (kBlock 0 (kLoop (kBlock 1 (kSeq (kReg (sV (oBin .sub .no (xT 2) (xT 1)) (sS 4 (xL 0) sEnd)))
 (kSeq (kRegC (fun k => (sV (oBin .leq .no (xT 4) (ki 12)) k)) (xL 0) (kSeq (kReg (sC (cFn 281) [(xT 0), (xT 1), (xT 2)] sEnd))
 kRet)
 kSkip)
 (kSeq (kRegC (fun k => (sV (oBin .eql .no (xT 3) (ki 0)) k)) (xL 0) (kSeq (kReg (sC (cFn 282) [(xT 0), (xT 1), (xT 2)] sEnd))
 kRet)
 kSkip)
 (kSeq (kRegC (fun k => (sV (oUn .not (xT 5)) k)) (xL 0) (kSeq (kReg (sC (cFn 283) [(xT 0), (xT 1), (xT 2)] sEnd))
 (kReg (sV (oMov (xT 3)) (sV (oBin .sub .no (xL 0) (ki 1)) (sS 3 (xL 0) sEnd)))))
 kSkip)
 (kSeq (kReg (sC (cFn 284) [(xT 0), (xT 1), (xT 2)] (sV (oExt 0 (xL 0)) (sV (oExt 1 (xL 1)) (sS 7 (xL 1) (sS 6 (xL 0) sEnd))))))
 (kSeq (kRegC (fun k => (sV (oBin .eql .no (xT 6) (ki 2)) k)) (xL 0) (kSeq (kReg (sC (cFn 285) [(xT 0), (xT 1), (xT 2)] sEnd))
 (kSeq (kReg (sV (oBin .sub .no (xT 2) (ki 1)) (sV (oMov (xT 7)) (sV (oBin .sub .no (xL 0) (xT 1)) (sV (oBin .sub .no (xL 2) (xL 0)) (sS 7 (xL 0) sEnd))))))
 (kReg (sS 6 (ki 1) sEnd))))
 kSkip)
 (kSeq (kRegC (fun k => (sG (xT 5) true (sV (oMov (xT 8))) (sV (oPick (xT 5) (xL 0) (xK (bool false))) (sG (xL 0) true (sV (oMov (xT 6))) (sG (xL 1) true (sV (oBin .eql .no (xL 0) (ki 1))) (sV (oPick (xL 2) (xL 0) (xK (bool false))) k)))))) (xL 0) (kRegC (fun k => (sC (cFn 286) [(xT 0), (xT 1), (xT 2)] k)) (xL 0) kRet
 kSkip)
 kSkip)
 (kSeq (kSeq (kDraw [(.v (oMov (xT 1)), none), (.v (oBin .gtr .no (xL 0) (ki 0)), none), (.v (oMov (xL 0)), none), (.v (oMov (xT 0)), (some ((xL 0), true))), (.v (oMov (xT 1)), (some ((xL 1), true))), (.v (oBin .sub .no (xL 0) (ki 1)), (some ((xL 2), true))), (.v (oIaddr 1 (xL 2) (xL 0)), (some ((xL 3), true))), (.v (oLoad (xL 0)), (some ((xL 4), true))), (.v (oMov (xT 0)), (some ((xL 5), true))), (.v (oMov (xT 7)), (some ((xL 6), true))), (.v (oIaddr 1 (xL 1) (xL 0)), (some ((xL 7), true))), (.v (oLoad (xL 0)), (some ((xL 8), true))), (.c (cFn 252) [(xL 4), (xL 0)], (some ((xL 9), true))), (.v (oUn .not (xL 0)), (some ((xL 10), true))), (.v (oPick (xL 11) (xL 0) (xK (bool false))), none)] 0 [none, none, none, none, none, none, none, none, none, (some 0), none, none, none, none, none, none] [])
 (kCond (xT 9) (kSeq (kReg (sC (cFn 287) [(xT 0), (xT 1), (xT 2), (xT 7)] (sS 10 (xL 0) sEnd)))
 (kSeq (kReg (sS 1 (xT 10) sEnd))
 (kExit 1)))
 kSkip))
 (kSeq (kReg (sC (cFn 288) [(xT 0), (xT 1), (xT 2), (xT 7)] (sV (oExt 0 (xL 0)) (sV (oExt 1 (xL 1)) (sS 12 (xL 1) (sS 11 (xL 0) sEnd))))))
 (kSeq (kReg (sS 8 (xT 11) sEnd))
 (kSeq (kReg (sV (oBin .sub .no (xT 12) (xT 1)) (sV (oBin .sub .no (xT 2) (xT 12)) (sS 14 (xL 1) (sS 13 (xL 0) sEnd)))))
 (kSeq (kReg (sV (oBin .quo .no (xT 4) (ki 8)) (sS 15 (xL 0) sEnd)))
 (kRegC (fun k => (sV (oBin .lss .no (xT 14) (xT 13)) k)) (xL 0) (kSeq (kReg (sV (oBin .geq .no (xT 14) (xT 15)) (sS 5 (xL 0) sEnd)))
 (kSeq (kReg (sC (cFn 232) [(xT 0), (xT 1), (xT 12), (xT 3)] sEnd))
 (kReg (sV (oBin .add .no (xT 12) (ki 1)) (sS 1 (xL 0) sEnd)))))
 (kSeq (kReg (sV (oBin .geq .no (xT 13) (xT 15)) (sS 5 (xL 0) sEnd)))
 (kSeq (kReg (sV (oBin .add .no (xT 12) (ki 1)) (sC (cFn 232) [(xT 0), (xL 0), (xT 2), (xT 3)] sEnd)))
 (kReg (sS 2 (xT 12) sEnd))))))))))))))))))))))
theorem t232 : FF d232 Tryz.f232 a232 [] := ff Tryz.func232 (by kernel_rfl)
def x232 : XFn := .go a232 4 pd12 []
def d233 : FD := ⟨233, 1, [2]⟩
def a233 : CodeF := (kSeq (kReg (sS 1 (ki 0) sEnd))
 (kSeq (kCond (xK (bool false)) (kSeq (kReg (sV (oConv .u32 (xT 0)) (sC (cFn 289) [(xL 0)] (sS 1 (xL 0) sEnd))))
 kRet)
 kSkip)
 (kSeq (kReg (sC (cFn 190) [(xT 0)] (sS 1 (xL 0) sEnd)))
 kRet)))
theorem t233 : FF d233 Tryz.f233 a233 [(.t 1)] := ff Tryz.func233 (by kernel_rfl)
def x233 : XFn := .go a233 1 pd1 [(.t 1)]
def d235 : FD := ⟨235, 2, [4, 6, 7, 2, 5]⟩
def a235 : CodeF := (kSeq (kReg (sH (oBox 136 1 (xT 0)) (sS 5 (xL 0) (sS 2 (xK nils) sEnd))))
 (kSeq (kSeq (kReg (sS 3 (xT 1) sEnd))
 (kBlock 0 (kRf 16780986 [4] (xT 3))))
 (kSeq (kReg (sV (oLoad (xT 5)) (sS 2 (xL 0) sEnd)))
 kRet)))
theorem t235 : FF d235 Tryz.f235 a235 [(.t 2)] := ff Tryz.func235 (by kernel_rfl)
def x235 : XFn := .go a235 2 pd5 [(.t 2)]
def r235x0 : CodeF × CodeF := ((kReg (sS 6 (xT 4) sEnd)),
 (kBlock 1 (kReg (sV (oLoad (xT 5)) (sH (oBsl 9 1 1 [(str [])] [(0, 1, (xT 6))]) (sH (oApp 9 1 (xL 1) (xL 0)) (sH (oStore 1 (xT 5) (xL 0)) sEnd)))))))
theorem u235x0 : RfFact Tryz.prog d235 Tryz.f235 16780986 r235x0 := ⟨Tryz.func235, by kernel_rfl⟩
def d236 : FD := ⟨236, 2, [4, 6, 7, 2, 5]⟩
def a236 : CodeF := (kSeq (kReg (sH (oBox 22 1 (xT 0)) (sS 5 (xL 0) (sS 2 (xK nils) sEnd))))
 (kSeq (kSeq (kReg (sS 3 (xT 1) sEnd))
 (kBlock 0 (kRf 16781002 [4] (xT 3))))
 (kSeq (kReg (sV (oLoad (xT 5)) (sS 2 (xL 0) sEnd)))
 kRet)))
theorem t236 : FF d236 Tryz.f236 a236 [(.t 2)] := ff Tryz.func236 (by kernel_rfl)
def x236 : XFn := .go a236 2 pd5 [(.t 2)]
def r236x0 : CodeF × CodeF := ((kReg (sS 6 (xT 4) sEnd)),
 (kBlock 1 (kReg (sV (oLoad (xT 5)) (sH (oBsl 3 1 1 [(int .i64 (.ofNat 0))] [(0, 1, (xT 6))]) (sH (oApp 3 1 (xL 1) (xL 0)) (sH (oStore 1 (xT 5) (xL 0)) sEnd)))))))
theorem u236x0 : RfFact Tryz.prog d236 Tryz.f236 16781002 r236x0 := ⟨Tryz.func236, by kernel_rfl⟩
def d237 : FD := ⟨237, 4, [10, 8, 12, 11, 9, 87, 13, 15, 14, 17, 16, 18]⟩
def a237 : CodeF := (kSeq (kReg (sS 5 (xK (bool true)) sEnd))
 (kSeq (kReg (sS 8 (xK (bool true)) sEnd))
 (kBlock 0 (kLoop (kBlock 1 (kSeq (kReg (sV (oBin .sub .no (xT 2) (xT 1)) (sS 4 (xL 0) sEnd)))
 (kSeq (kRegC (fun k => (sV (oBin .leq .no (xT 4) (ki 12)) k)) (xL 0) (kSeq (kReg (sC (cFn 299) [(xT 0), (xT 1), (xT 2)] sEnd))
 kRet)
 kSkip)
 (kSeq (kRegC (fun k => (sV (oBin .eql .no (xT 3) (ki 0)) k)) (xL 0) (kSeq (kReg (sC (cFn 300) [(xT 0), (xT 1), (xT 2)] sEnd))
 kRet)
 kSkip)
 (kSeq (kRegC (fun k => (sV (oUn .not (xT 5)) k)) (xL 0) (kSeq (kReg (sC (cFn 301) [(xT 0), (xT 1), (xT 2)] sEnd))
 (kReg (sV (oMov (xT 3)) (sV (oBin .sub .no (xL 0) (ki 1)) (sS 3 (xL 0) sEnd)))))
 kSkip)
 (kSeq (kReg (sC (cFn 302) [(xT 0), (xT 1), (xT 2)] (sV (oExt 0 (xL 0)) (sV (oExt 1 (xL 1)) (sS 7 (xL 1) (sS 6 (xL 0) sEnd))))))
 (kSeq (kRegC (fun k => (sV (oBin .eql .no (xT 6) (ki 2)) k)) (xL 0) (kSeq (kReg (sC (cFn 303) [(xT 0), (xT 1), (xT 2)] sEnd))
 (kSeq (kReg (sV (oBin .sub .no (xT 2) (ki 1)) (sV (oMov (xT 7)) (sV (oBin .sub .no (xL 0) (xT 1)) (sV (oBin .sub .no (xL 2) (xL 0)) (sS 7 (xL 0) sEnd))))))
 (kReg (sS 6 (ki 1) sEnd))))
 kSkip)
 (kSeq (kRegC (fun k => (sG (xT 5) true (sV (oMov (xT 8))) (sV (oPick (xT 5) (xL 0) (xK (bool false))) (sG (xL 0) true (sV (oMov (xT 6))) (sG (xL 1) true (sV (oBin .eql .no (xL 0) (ki 1))) (sV (oPick (xL 2) (xL 0) (xK (bool false))) k)))))) (xL 0) (kRegC (fun k => (sC (cFn 304) [(xT 0), (xT 1), (xT 2)] k)) (xL 0) kRet
 kSkip)
 kSkip)
 (kSeq (kSeq (kDraw [(.v (oMov (xT 1)), none), (.v (oBin .gtr .no (xL 0) (ki 0)), none), (.v (oMov (xL 0)), none), (.v (oMov (xT 0)), (some ((xL 0), true))), (.v (oMov (xT 1)), (some ((xL 1), true))), (.v (oBin .sub .no (xL 0) (ki 1)), (some ((xL 2), true))), (.v (oIaddr 1 (xL 2) (xL 0)), (some ((xL 3), true))), (.v (oLoad (xL 0)), (some ((xL 4), true))), (.v (oMov (xT 0)), (some ((xL 5), true))), (.v (oMov (xT 7)), (some ((xL 6), true))), (.v (oIaddr 1 (xL 1) (xL 0)), (some ((xL 7), true))), (.v (oLoad (xL 0)), (some ((xL 8), true))), (.c (cFn 305) [(xL 4), (xL 0)], (some ((xL 9), true))), (.v (oUn .not (xL 0)), (some ((xL 10), true))), (.v (oPick (xL 11) (xL 0) (xK (bool false))), none)] 0 [none, none, none, none, none, none, none, none, none, (some 0), none, none, none, none, none, none] [])
 (kCond (xT 9) (kSeq (kReg (sC (cFn 306) [(xT 0), (xT 1), (xT 2), (xT 7)] (sS 10 (xL 0) sEnd)))
 (kSeq (kReg (sS 1 (xT 10) sEnd))
 (kExit 1)))
 kSkip))
 (kSeq (kReg (sC (cFn 307) [(xT 0), (xT 1), (xT 2), (xT 7)] (sV (oExt 0 (xL 0)) (sV (oExt 1 (xL 1)) (sS 12 (xL 1) (sS 11 (xL 0) sEnd))))))
 (kSeq (kReg (sS 8 (xT 11) sEnd))
 (kSeq (kReg (sV (oBin .sub .no (xT 12) (xT 1)) (sV (oBin .sub .no (xT 2) (xT 12)) (sS 14 (xL 1) (sS 13 (xL 0) sEnd)))))
 (kSeq (kReg (sV (oBin .quo .no (xT 4) (ki 8)) (sS 15 (xL 0) sEnd)))
 (kRegC (fun k => (sV (oBin .lss .no (xT 14) (xT 13)) k)) (xL 0) (kSeq (kReg (sV (oBin .geq .no (xT 14) (xT 15)) (sS 5 (xL 0) sEnd)))
 (kSeq (kReg (sC (cFn 237) [(xT 0), (xT 1), (xT 12), (xT 3)] sEnd))
 (kReg (sV (oBin .add .no (xT 12) (ki 1)) (sS 1 (xL 0) sEnd)))))
 (kSeq (kReg (sV (oBin .geq .no (xT 13) (xT 15)) (sS 5 (xL 0) sEnd)))
 (kSeq (kReg (sV (oBin .add .no (xT 12) (ki 1)) (sC (cFn 237) [(xT 0), (xL 0), (xT 2), (xT 3)] sEnd)))
 (kReg (sS 2 (xT 12) sEnd))))))))))))))))))))))
theorem t237 : FF d237 Tryz.f237 a237 [] := ff Tryz.func237 (by kernel_rfl)
def x237 : XFn := .go a237 4 pd12 []
def d238 : FD := ⟨238, 1, [2, 3, 4]⟩
def a238 : CodeF := (kSeq (kReg (sS 1 (xK (int .u32 (.ofNat 0))) sEnd))
 (kSeq (kSeq (kReg (sS 2 (ki 0) sEnd))
 (kBlock 0 (kLoop (kSeq (kReg (sV (oBin .lss .no (xT 2) (ki 4)) (sS 3 (xL 0) sEnd)))
 (kSeq (kCond (xT 3) kSkip
 (kExit 0))
 (kSeq (kBlock 1 (kReg (sV (oMov (xT 0)) (sV (oBin .shr .no (xL 0) (xK (int .u64 (.ofNat 1)))) (sV (oMov (xT 0)) (sV (oBin .and .no (xL 0) (xK (int .u32 (.ofNat 1)))) (sV (oBin .mul .no (xK (int .u32 (.ofNat 3988292384))) (xL 0)) (sV (oBin .xor .no (xL 3) (xL 0)) (sS 0 (xL 0) sEnd)))))))))
 (kReg (sV (oBin .add .no (xT 2) (ki 1)) (sS 2 (xL 0) sEnd)))))))))
 (kSeq (kReg (sS 1 (xT 0) sEnd))
 kRet)))
theorem t238 : FF d238 Tryz.f238 a238 [(.t 1)] := ff Tryz.func238 (by kernel_rfl)
def x238 : XFn := .go a238 1 pd3 [(.t 1)]
def d239 : FD := ⟨239, 3, [4, 5, 6]⟩
def a239 : CodeF := (kSeq (kReg (sS 3 (xK (str [])) sEnd))
 (kSeq (kRegC (fun k => (sV (oBin .eql .no (xT 0) (ki 0)) k)) (xL 0) (kSeq (kReg (sV (oLoad (xT 1)) (sC (cFn 100) [(xL 0), (ki 4096)] (sS 3 (xL 0) sEnd))))
 kRet)
 kSkip)
 (kSeq (kDraw [(.v (oLoad (xT 1)), none), (.v (oLoad (xT 2)), none), (.v (oMov (xT 0)), none), (.v (oBin .sub .no (xL 0) (ki 1)), none), (.v (oIaddr 1 (xL 2) (xL 0)), none), (.v (oLoad (xL 0)), none), (.v (oLenS (xL 0)), none), (.c (cFn 73) [(xL 6), (xL 0)], none), (.v (oMov (xL 0)), none)] 0 [none, none, none, none, (some 0), none] [])
 (kSeq (kDraw [(.v (oLoad (xT 2)), none), (.v (oMov (xT 0)), none), (.v (oBin .sub .no (xL 0) (ki 1)), none), (.v (oIaddr 1 (xL 2) (xL 0)), none), (.v (oLoad (xL 0)), none), (.v (oMov (xT 4)), none), (.v (oSlcs (xL 1) none (some (xL 0))), none), (.v (oLoad (xT 1)), none), (.c (cFn 100) [(xL 0), (ki 4096)], none), (.v (oBin .add .no (xL 2) (xL 0)), none), (.v (oMov (xL 0)), none)] 0 [none, none, none, none, none, (some 0)] [(10, 2), (6, 2)])
 (kSeq (kRegC (fun k => (sV (oLoad (xT 1)) (sC (cFn 78) [(xL 0)] (sV (oBin .neq .no (xL 0) (ki 0)) (sG (xL 0) false (sV (oMov (xT 5))) (sG (xL 1) false (sV (oLoad (xT 2))) (sG (xL 2) false (sV (oMov (xT 0))) (sG (xL 3) false (sV (oBin .sub .no (xL 0) (ki 1))) (sG (xL 4) false (sV (oIaddr 1 (xL 2) (xL 0))) (sG (xL 5) false (sV (oLoad (xL 0))) (sG (xL 6) false (sV (oBin .leq .no (xL 5) (xL 0))) (sV (oPick (xL 7) (xK (bool true)) (xL 0)) (sG (xL 0) false (sV (oLoad (xT 2))) (sG (xL 1) false (sV (oMov (xT 0))) (sG (xL 2) false (sV (oBin .sub .no (xL 0) (ki 1))) (sG (xL 3) false (sV (oIaddr 1 (xL 2) (xL 0))) (sG (xL 4) false (sV (oLoad (xL 0))) (sG (xL 5) false (sV (oMov (xT 5))) (sG (xL 6) false (sC (cFn 240) [(xL 1), (xL 0)]) (sG (xL 7) false (sV (oMov (xT 4))) (sG (xL 8) false (sV (oBin .neq .no (xL 1) (xL 0))) (sV (oPick (xL 9) (xK (bool true)) (xL 0)) (sG (xL 0) false (sV (oMov (xT 5))) (sG (xL 1) false (sV (oLenS (xL 0))) (sG (xL 2) false (sV (oBin .gtr .no (xL 0) (ki 4096))) (sV (oPick (xL 3) (xK (bool true)) (xL 0)) k)))))))))))))))))))))))))) (xL 0) (kSeq (kReg (sS 3 (xK (str [])) sEnd))
 kRet)
 kSkip)
 (kSeq (kReg (sS 3 (xT 5) sEnd))
 kRet))))))
theorem t239 : FF d239 Tryz.f239 a239 [(.t 3)] := ff Tryz.func239 (by kernel_rfl)
def x239 : XFn := .go a239 3 pd3 [(.t 3)]
def d240 : FD := ⟨240, 2, [4, 5, 24]⟩
def a240 : CodeF := (kSeq (kReg (sS 2 (ki 0) sEnd))
 (kSeq (kReg (sS 3 (ki 0) sEnd))
 (kSeq (kBlock 0 (kLoop (kSeq (kSeq (kDraw [(.v (oMov (xT 3)), none), (.v (oMov (xT 0)), none), (.v (oLenS (xL 0)), none), (.v (oBin .lss .no (xL 2) (xL 0)), none), (.v (oMov (xL 0)), none), (.v (oMov (xT 3)), (some ((xL 0), true))), (.v (oMov (xT 1)), (some ((xL 1), true))), (.v (oLenS (xL 0)), (some ((xL 2), true))), (.v (oBin .lss .no (xL 2) (xL 0)), (some ((xL 3), true))), (.v (oPick (xL 4) (xL 0) (xK (bool false))), none), (.v (oMov (xL 0)), none), (.v (oMov (xT 0)), (some ((xL 0), true))), (.v (oMov (xT 3)), (some ((xL 1), true))), (.v (oIdx (xL 1) (xL 0)), (some ((xL 2), true))), (.v (oMov (xT 1)), (some ((xL 3), true))), (.v (oMov (xT 3)), (some ((xL 4), true))), (.v (oIdx (xL 1) (xL 0)), (some ((xL 5), true))), (.v (oBin .eql .no (xL 3) (xL 0)), (some ((xL 6), true))), (.v (oPick (xL 7) (xL 0) (xK (bool false))), none)] 0 [none, none, none, none, (some 0)] [])
 (kCond (xT 4) kSkip
 (kExit 0)))
 (kBlock 1 (kReg (sV (oMov (xT 3)) (sV (oBin .add .no (xL 0) (ki 1)) (sS 3 (xL 0) sEnd))))))))
 (kSeq (kReg (sS 2 (xT 3) sEnd))
 kRet))))
theorem t240 : FF d240 Tryz.f240 a240 [(.t 2)] := ff Tryz.func240 (by kernel_rfl)
def x240 : XFn := .go a240 2 pd3 [(.t 2)]
def d241 : FD := ⟨241, 1, [2]⟩
def a241 : CodeF := (kSeq (kReg (sS 1 (xK (int .u64 (.ofNat 0))) sEnd))
 (kSeq (kReg (sV (oMkfn 136 [(xT 0)] []) (sC (cFn 176) [(xT 0), (xL 0)] (sS 1 (xL 0) sEnd))))
 kRet))
theorem t241 : FF d241 Tryz.f241 a241 [(.t 1)] := ff Tryz.func241 (by kernel_rfl)
def x241 : XFn := .go a241 1 pd1 [(.t 1)]
def d242 : FD := ⟨242, 2, [3, 6, 5, 4]⟩
def a242 : CodeF := (kSeq (kReg (sS 2 (xK nils) sEnd))
 (kSeq (kReg (sV (oLoad (xT 1)) (sC (cFn 74) [(xL 0), (xT 0)] (sV (oExt 0 (xL 0)) (sV (oExt 1 (xL 1)) (sV (oExt 2 (xL 2)) (sS 5 (xL 2) (sS 4 (xL 1) (sS 3 (xL 0) sEnd)))))))))
 (kSeq (kRegC (fun k => (sV (oBin .neq .no (xT 3) (ki 0)) k)) (xL 0) (kSeq (kReg (sH (oStore 1 (xT 1) (xK nils)) sEnd))
 (kSeq (kReg (sS 2 (xK nils) sEnd))
 kRet))
 kSkip)
 (kSeq (kReg (sV (oLoad (xT 1)) (sV (oSlc 1 (xL 0) (some (xT 4)) none none) (sH (oStore 1 (xT 1) (xL 0)) sEnd))))
 (kSeq (kReg (sS 2 (xT 5) sEnd))
 kRet)))))
theorem t242 : FF d242 Tryz.f242 a242 [(.t 2)] := ff Tryz.func242 (by kernel_rfl)
def x242 : XFn := .go a242 2 pd4 [(.t 2)]
def d243 : FD := ⟨243, 1, [2, 8, 9, 10, 7, 6, 4, 3]⟩
def a243 : CodeF := (kSeq (kReg (sS 1 (xK (bool false)) sEnd))
 (kSeq (kReg (sS 8 (xK (int .i64 (.negSucc 0))) (sS 7 (ki 0) sEnd)))
 (kSeq (kSeq (kReg (sS 5 (xT 0) (sV (oLenL (xT 5)) (sS 2 (xL 0) (sS 3 (ki 0) sEnd)))))
 (kBlock 0 (kLoop (kSeq (kReg (sV (oBin .lss .no (xT 3) (xT 2)) (sS 4 (xL 0) sEnd)))
 (kSeq (kCond (xT 4) kSkip
 (kExit 0))
 (kSeq (kBlock 1 (kSeq (kReg (sV (oIaddr 2 (xT 5) (xT 3)) (sV (oLoadN 2 (xL 0)) (sH (oAlloc 224 2 [(int .i64 (.ofNat 0)), nils]) (sS 6 (xL 0) (sH (oStore 2 (xT 6) (xL 1)) sEnd))))))
 (kSeq (kReg (sV (oMov (xT 7)) (sV (oFaddr 1 (xT 6)) (sV (oLoad (xL 0)) (sV (oLenL (xL 0)) (sV (oBin .add .no (xL 3) (xL 0)) (sS 7 (xL 0) sEnd)))))))
 (kSeq (kRegC (fun k => (sV (oFaddr 0 (xT 6)) (sV (oLoad (xL 0)) (sV (oBin .leq .no (xL 0) (xT 8)) (sG (xL 0) false (sV (oFaddr 0 (xT 6))) (sG (xL 1) false (sV (oLoad (xL 0))) (sG (xL 2) false (sV (oBin .geq .no (xL 0) (ki 16384))) (sV (oPick (xL 3) (xK (bool true)) (xL 0)) (sG (xL 0) false (sV (oFaddr 1 (xT 6))) (sG (xL 1) false (sV (oLoad (xL 0))) (sG (xL 2) false (sV (oLenL (xL 0))) (sG (xL 3) false (sV (oBin .eql .no (xL 0) (ki 0))) (sV (oPick (xL 4) (xK (bool true)) (xL 0)) (sG (xL 0) false (sV (oMov (xT 7))) (sG (xL 1) false (sV (oBin .gtr .no (xL 0) (ki 1048576))) (sV (oPick (xL 2) (xK (bool true)) (xL 0)) (sG (xL 0) false (sV (oFaddr 1 (xT 6))) (sG (xL 1) false (sV (oLoad (xL 0))) (sG (xL 2) false (sC (cFn 308) [(xL 0)]) (sG (xL 3) false (sV (oUn .not (xL 0))) (sV (oPick (xL 4) (xK (bool true)) (xL 0)) (sG (xL 0) false (sV (oFaddr 1 (xT 6))) (sG (xL 1) false (sV (oLoad (xL 0))) (sG (xL 2) false (sV (oIaddr 1 (xL 0) (ki 0))) (sG (xL 3) false (sV (oLoad (xL 0))) (sG (xL 4) false (sV (oBin .lss .no (xL 0) (ki 0))) (sV (oPick (xL 5) (xK (bool true)) (xL 0)) (sG (xL 0) false (sV (oFaddr 1 (xT 6))) (sG (xL 1) false (sV (oLoad (xL 0))) (sG (xL 2) false (sV (oFaddr 1 (xT 6))) (sG (xL 3) false (sV (oLoad (xL 0))) (sG (xL 4) false (sV (oLenL (xL 0))) (sG (xL 5) false (sV (oBin .sub .no (xL 0) (ki 1))) (sG (xL 6) false (sV (oIaddr 1 (xL 4) (xL 0))) (sG (xL 7) false (sV (oLoad (xL 0))) (sG (xL 8) false (sV (oBin .gtr .no (xL 0) (ki 1048576))) (sV (oPick (xL 9) (xK (bool true)) (xL 0)) k))))))))))))))))))))))))))))))))))))) (xL 0) (kSeq (kReg (sS 1 (xK (bool false)) sEnd))
 kRet)
 kSkip)
 (kReg (sV (oFaddr 0 (xT 6)) (sV (oLoad (xL 0)) (sS 8 (xL 0) sEnd))))))))
 (kReg (sV (oBin .add .no (xT 3) (ki 1)) (sS 3 (xL 0) sEnd)))))))))
 (kSeq (kReg (sS 1 (xK (bool true)) sEnd))
 kRet))))
theorem t243 : FF d243 Tryz.f243 a243 [(.t 1)] := ff Tryz.func243 (by kernel_rfl)
def x243 : XFn := .go a243 1 pd8 [(.t 1)]
def d244 : FD := ⟨244, 2, [4, 3, 2]⟩
def a244 : CodeF := (kSeq (kReg (sH (oBox 220 1 (xT 0)) (sS 4 (xL 0) (sH (oBox 3 1 (xT 1)) (sS 3 (xL 0) (sS 2 (xK nilfunc) sEnd))))))
 (kSeq (kRegC (fun k => (sV (oLoad (xT 3)) (sV (oBin .lss .no (xL 0) (ki 1)) k))) (xL 0) (kReg (sV (oMkif 9 (xK (str [99, 97, 110, 110, 111, 116, 32, 98, 101, 32, 108, 101, 115, 115, 32, 116, 104, 97, 110, 32, 49]))) (sPan (xL 0))))
 kSkip)
 (kSeq (kReg (sV (oMkfn 309 [] [(xT 4), (xT 3)]) (sS 2 (xL 0) sEnd)))
 kRet)))
theorem t244 : FF d244 Tryz.f244 a244 [(.t 2)] := ff Tryz.func244 (by kernel_rfl)
def x244 : XFn := .go a244 2 pd3 [(.t 2)]
def d245 : FD := ⟨245, 2, [4, 14, 15, 16, 13, 9, 5, 6, 38, 39, 40, 37, 10, 12, 7]⟩
def a245 : CodeF := (kSeq (kReg (sS 2 (xK nils) sEnd))
 (kSeq (kReg (sS 8 (xK nils) (sS 9 (xK nils) (sS 16 (xK nils) sEnd))))
 (kSeq (kSeq (kReg (sS 6 (xT 0) (sV (oLenL (xT 6)) (sS 3 (xL 0) (sS 4 (ki 0) sEnd)))))
 (kBlock 0 (kLoop (kSeq (kReg (sV (oBin .lss .no (xT 4) (xT 3)) (sS 5 (xL 0) sEnd)))
 (kSeq (kCond (xT 5) kSkip
 (kExit 0))
 (kSeq (kBlock 1 (kSeq (kReg (sV (oIaddr 2 (xT 6) (xT 4)) (sV (oLoadN 2 (xL 0)) (sH (oAlloc 224 2 [(int .i64 (.ofNat 0)), nils]) (sS 7 (xL 0) (sH (oStore 2 (xT 7) (xL 1)) sEnd))))))
 (kSeq (kReg (sV (oMov (xT 8)) (sV (oFaddr 0 (xT 7)) (sV (oLoad (xL 0)) (sV (oBin .sub .no (xL 0) (xT 1)) (sV (oBin .sub .no (xL 0) (ki 1)) (sH (oBsl 2 1 1 [(int .i64 (.ofNat 0))] [(0, 1, (xL 0))]) (sH (oApp 2 1 (xL 5) (xL 0)) (sS 8 (xL 0) sEnd)))))))))
 (kSeq (kReg (sV (oFaddr 0 (xT 7)) (sV (oLoad (xL 0)) (sS 1 (xL 0) sEnd))))
 (kSeq (kReg (sV (oMov (xT 9)) (sV (oFaddr 1 (xT 7)) (sV (oLoad (xL 0)) (sV (oLenL (xL 0)) (sV (oBin .sub .no (xL 0) (ki 1)) (sH (oBsl 2 1 1 [(int .i64 (.ofNat 0))] [(0, 1, (xL 0))]) (sH (oApp 2 1 (xL 5) (xL 0)) (sS 9 (xL 0) sEnd)))))))))
 (kSeq (kReg (sS 14 (ki 0) sEnd))
 (kSeq (kReg (sV (oFaddr 1 (xT 7)) (sV (oLoad (xL 0)) (sS 13 (xL 0) (sV (oLenL (xT 13)) (sS 10 (xL 0) (sS 11 (ki 0) sEnd)))))))
 (kBlock 2 (kLoop (kSeq (kReg (sV (oBin .lss .no (xT 11) (xT 10)) (sS 12 (xL 0) sEnd)))
 (kSeq (kCond (xT 12) kSkip
 (kExit 2))
 (kSeq (kBlock 3 (kSeq (kReg (sV (oIaddr 1 (xT 13) (xT 11)) (sV (oLoad (xL 0)) (sS 15 (xL 0) sEnd))))
 (kSeq (kReg (sV (oMov (xT 16)) (sV (oBin .sub .no (xT 15) (xT 14)) (sH (oBsl 2 1 1 [(int .i64 (.ofNat 0))] [(0, 1, (xL 0))]) (sH (oApp 2 1 (xL 2) (xL 0)) (sS 16 (xL 0) sEnd))))))
 (kReg (sS 14 (xT 15) sEnd)))))
 (kReg (sV (oBin .add .no (xT 11) (ki 1)) (sS 11 (xL 0) sEnd)))))))))))))))
 (kReg (sV (oBin .add .no (xT 4) (ki 1)) (sS 4 (xL 0) sEnd)))))))))
 (kSeq (kReg (sC (cFn 83) [(xT 8)] (sC (cFn 83) [(xT 9)] (sC (cFn 83) [(xT 16)] (sH (oBsl 48 1 3 [nils] [(0, 1, (xL 2)), (1, 1, (xL 1)), (2, 1, (xL 0))]) (sC (cFn 169) [(xL 0)] (sS 2 (xL 0) sEnd)))))))
 kRet))))
theorem t245 : FF d245 Tryz.f245 a245 [(.t 2)] := ff Tryz.func245 (by kernel_rfl)
def x245 : XFn := .go a245 2 pd15 [(.t 2)]
def d246 : FD := ⟨246, 2, [4, 7, 8, 9, 5]⟩
def a246 : CodeF := (kSeq (kReg (sS 2 (ki 0) sEnd))
 (kSeq (kSeq (kReg (sV (oLenL (xT 0)) (sS 3 (xL 0) (sS 4 (ki 0) sEnd))))
 (kBlock 0 (kLoop (kSeq (kReg (sV (oBin .lss .no (xT 4) (xT 3)) (sS 5 (xL 0) sEnd)))
 (kSeq (kCond (xT 5) kSkip
 (kExit 0))
 (kSeq (kBlock 1 (kSeq (kReg (sS 6 (xT 4) sEnd))
 (kRegC (fun k => (sV (oIaddr 1 (xT 0) (xT 6)) (sV (oLoad (xL 0)) (sC (cVal (xT 1)) [(xL 0)] k)))) (xL 0) (kSeq (kReg (sS 2 (xT 6) sEnd))
 kRet)
 kSkip)))
 (kReg (sV (oBin .add .no (xT 4) (ki 1)) (sS 4 (xL 0) sEnd)))))))))
 (kSeq (kReg (sS 2 (xK (int .i64 (.negSucc 0))) sEnd))
 kRet)))
theorem t246 : FF d246 Tryz.f246 a246 [(.t 2)] := ff Tryz.func246 (by kernel_rfl)
def x246 : XFn := .go a246 2 pd5 [(.t 2)]
def d247 : FD := ⟨247, 1, [2]⟩
def a247 : CodeF := (kSeq (kReg (sS 1 (ki 0) sEnd))
 (kSeq (kRegC (fun k => (sV (oBin .eql .ptr (xT 0) (xK nilptr)) k)) (xL 0) (kSeq (kReg (sS 1 (ki 0) sEnd))
 kRet)
 kSkip)
 (kSeq (kReg (sV (oNilc (xT 0)) (sV (oFaddr 0 (xL 0)) (sV (oLoad (xL 0)) (sV (oLenL (xL 0)) (sS 1 (xL 0) sEnd))))))
 kRet)))
theorem t247 : FF d247 Tryz.f247 a247 [(.t 1)] := ff Tryz.func247 (by kernel_rfl)
def x247 : XFn := .go a247 1 pd1 [(.t 1)]
def d248 : FD := ⟨248, 2, [4, 15, 16, 17, 14, 7, 5]⟩
def a248 : CodeF := (kSeq (kReg (sS 2 (xK nils) sEnd))
 (kSeq (kRegC (fun k => (sV (oBin .eql .ptr (xT 0) (xK nilptr)) k)) (xL 0) (kSeq (kReg (sS 2 (xK nils) sEnd))
 kRet)
 kSkip)
 (kSeq (kReg (sS 8 (xK nils) sEnd))
 (kSeq (kSeq (kReg (sV (oNilc (xT 0)) (sV (oFaddr 0 (xL 0)) (sC (cFn 249) [(xL 0), (xT 1)] (sS 6 (xL 0) (sV (oLenL (xT 6)) (sS 3 (xL 0) (sS 4 (ki 0) sEnd))))))))
 (kBlock 0 (kLoop (kSeq (kReg (sV (oBin .lss .no (xT 4) (xT 3)) (sS 5 (xL 0) sEnd)))
 (kSeq (kCond (xT 5) kSkip
 (kExit 0))
 (kSeq (kBlock 1 (kSeq (kReg (sV (oIaddr 1 (xT 6) (xT 4)) (sV (oLoad (xL 0)) (sS 7 (xL 0) sEnd))))
 (kReg (sV (oMov (xT 8)) (sH (oBsl 3 1 1 [(int .i64 (.ofNat 0))] [(0, 1, (xT 7))]) (sH (oApp 3 1 (xL 1) (xL 0)) (sS 8 (xL 0) sEnd)))))))
 (kReg (sV (oBin .add .no (xT 4) (ki 1)) (sS 4 (xL 0) sEnd)))))))))
 (kSeq (kReg (sS 2 (xT 8) sEnd))
 kRet)))))
theorem t248 : FF d248 Tryz.f248 a248 [(.t 2)] := ff Tryz.func248 (by kernel_rfl)
def x248 : XFn := .go a248 2 pd7 [(.t 2)]
def d249 : FD := ⟨249, 2, [4, 5]⟩
def a249 : CodeF := (kSeq (kReg (sS 2 (xK nils) sEnd))
 (kSeq (kRegC (fun k => (sV (oBin .lss .no (xT 1) (ki 0)) (sG (xL 0) false (sV (oMov (xT 1))) (sG (xL 1) false (sV (oMov (xT 0))) (sG (xL 2) false (sC (cFn 247) [(xL 0)]) (sG (xL 3) false (sV (oBin .geq .no (xL 2) (xL 0))) (sV (oPick (xL 4) (xK (bool true)) (xL 0)) k))))))) (xL 0) (kSeq (kReg (sS 2 (xK nils) sEnd))
 kRet)
 kSkip)
 (kSeq (kReg (sS 3 (ki 0) sEnd))
 (kSeq (kRegC (fun k => (sV (oBin .gtr .no (xT 1) (ki 0)) k)) (xL 0) (kReg (sV (oNilc (xT 0)) (sV (oFaddr 0 (xL 0)) (sV (oLoad (xL 0)) (sV (oBin .sub .no (xT 1) (ki 1)) (sV (oIaddr 1 (xL 1) (xL 0)) (sV (oLoad (xL 0)) (sS 3 (xL 0) sEnd))))))))
 kSkip)
 (kSeq (kDraw [(.v (oMov (xT 0)), none), (.v (oNilc (xL 0)), none), (.v (oFaddr 1 (xL 0)), none), (.v (oLoad (xL 0)), none), (.v (oMov (xT 3)), none), (.v (oMov (xT 0)), none), (.v (oNilc (xL 0)), none), (.v (oFaddr 0 (xL 0)), none), (.v (oLoad (xL 0)), none), (.v (oMov (xT 1)), none), (.v (oIaddr 1 (xL 1) (xL 0)), none), (.v (oLoad (xL 0)), none), (.v (oSlc 1 (xL 8) (some (xL 7)) (some (xL 0)) none), none), (.v (oMov (xL 0)), none)] 0 [none, none, (some 0), none] [])
 kRet)))))
theorem t249 : FF d249 Tryz.f249 a249 [(.t 2)] := ff Tryz.func249 (by kernel_rfl)
def x249 : XFn := .go a249 2 pd2 [(.t 2)]
def d250 : FD := ⟨250, 2, []⟩
def a250 : CodeF := (kReg (sV (oLoad (xT 1)) (sH (oApp 5 1 (xL 0) (xT 0)) (sH (oStore 1 (xT 1) (xL 0)) sEnd))))
theorem t250 : FF d250 Tryz.f250 a250 [] := ff Tryz.func250 (by kernel_rfl)
def x250 : XFn := .go a250 2 pd0 []
def d251 : FD := ⟨251, 1, [2]⟩
def a251 : CodeF := (kSeq (kReg (sS 1 (xK nils) sEnd))
 (kSeq (kRegC (fun k => (sV (oBin .eql .slice (xT 0) (xK nils)) k)) (xL 0) (kSeq (kReg (sS 1 (xK nils) sEnd))
 kRet)
 kSkip)
 (kSeq (kReg (sH (oBsl 9 1 0 [(str [])] []) (sH (oApp 9 1 (xL 0) (xT 0)) (sS 1 (xL 0) sEnd))))
 kRet)))
theorem t251 : FF d251 Tryz.f251 a251 [(.t 1)] := ff Tryz.func251 (by kernel_rfl)
def x251 : XFn := .go a251 1 pd1 [(.t 1)]
def d252 : FD := ⟨252, 2, [4]⟩
def a252 : CodeF := (kSeq (kReg (sS 2 (xK (bool false)) sEnd))
 (kSeq (kReg (sC (cFn 310) [(xT 0)] (sG (xL 0) true (sV (oMov (xT 1))) (sG (xL 1) true (sC (cFn 310) [(xL 0)]) (sG (xL 2) true (sV (oUn .not (xL 0))) (sV (oPick (xL 3) (xL 0) (xK (bool false))) (sG (xL 0) false (sV (oMov (xT 0))) (sG (xL 1) false (sV (oMov (xT 1))) (sG (xL 2) false (sV (oBin .lss .no (xL 1) (xL 0))) (sV (oPick (xL 3) (xK (bool true)) (xL 0)) (sS 2 (xL 0) sEnd)))))))))))
 kRet))
theorem t252 : FF d252 Tryz.f252 a252 [(.t 2)] := ff Tryz.func252 (by kernel_rfl)
def x252 : XFn := .go a252 2 pd1 [(.t 2)]
def d281 : FD := ⟨281, 3, [6, 7, 30]⟩
def a281 : CodeF := (kSeq (kReg (sV (oBin .add .no (xT 1) (ki 1)) (sS 3 (xL 0) sEnd)))
 (kBlock 0 (kLoop (kSeq (kRegC (fun k => (sV (oBin .lss .no (xT 3) (xT 2)) k)) (xL 0) kSkip
 (kExit 0))
 (kSeq (kBlock 1 (kSeq (kReg (sS 4 (xT 3) sEnd))
 (kBlock 2 (kLoop (kSeq (kSeq (kDraw [(.v (oMov (xT 4)), none), (.v (oMov (xT 1)), none), (.v (oBin .gtr .no (xL 1) (xL 0)), none), (.v (oMov (xL 0)), none), (.v (oMov (xT 0)), (some ((xL 0), true))), (.v (oMov (xT 4)), (some ((xL 1), true))), (.v (oIaddr 1 (xL 1) (xL 0)), (some ((xL 2), true))), (.v (oLoad (xL 0)), (some ((xL 3), true))), (.v (oMov (xT 0)), (some ((xL 4), true))), (.v (oMov (xT 4)), (some ((xL 5), true))), (.v (oBin .sub .no (xL 0) (ki 1)), (some ((xL 6), true))), (.v (oIaddr 1 (xL 2) (xL 0)), (some ((xL 7), true))), (.v (oLoad (xL 0)), (some ((xL 8), true))), (.c (cFn 252) [(xL 5), (xL 0)], (some ((xL 9), true))), (.v (oPick (xL 10) (xL 0) (xK (bool false))), none)] 0 [none, none, none, none, none, (some 0)] [])
 (kCond (xT 5) kSkip
 (kExit 2)))
 (kSeq (kBlock 3 (kDraw [(.v (oMov (xT 0)), none), (.v (oMov (xT 4)), none), (.v (oMov (xT 0)), none), (.v (oMov (xT 4)), none), (.v (oBin .sub .no (xL 0) (ki 1)), none), (.v (oMov (xT 0)), none), (.v (oMov (xT 4)), none), (.v (oBin .sub .no (xL 0) (ki 1)), none), (.v (oIaddr 1 (xL 2) (xL 0)), none), (.v (oLoad (xL 0)), none), (.v (oMov (xT 0)), none), (.v (oMov (xT 4)), none), (.v (oIaddr 1 (xL 1) (xL 0)), none), (.v (oLoad (xL 0)), none), (.v (oIaddr 1 (xL 13) (xL 12)), none), (.h (oStore 1 (xL 0) (xL 5)), none), (.v (oIaddr 1 (xL 13) (xL 11)), none), (.h (oStore 1 (xL 0) (xL 3)), none)] 0 [none, none, none, none, none, none] []))
 (kReg (sV (oMov (xT 4)) (sV (oBin .sub .no (xL 0) (ki 1)) (sS 4 (xL 0) sEnd))))))))))
 (kReg (sV (oMov (xT 3)) (sV (oBin .add .no (xL 0) (ki 1)) (sS 3 (xL 0) sEnd)))))))))
theorem t281 : FF d281 Tryz.f281 a281 [] := ff Tryz.func281 (by kernel_rfl)
def x281 : XFn := .go a281 3 pd3 []
def d299 : FD := ⟨299, 3, [6, 7, 30]⟩
def a299 : CodeF := (kSeq (kReg (sV (oBin .add .no (xT 1) (ki 1)) (sS 3 (xL 0) sEnd)))
 (kBlock 0 (kLoop (kSeq (kRegC (fun k => (sV (oBin .lss .no (xT 3) (xT 2)) k)) (xL 0) kSkip
 (kExit 0))
 (kSeq (kBlock 1 (kSeq (kReg (sS 4 (xT 3) sEnd))
 (kBlock 2 (kLoop (kSeq (kSeq (kDraw [(.v (oMov (xT 4)), none), (.v (oMov (xT 1)), none), (.v (oBin .gtr .no (xL 1) (xL 0)), none), (.v (oMov (xL 0)), none), (.v (oMov (xT 0)), (some ((xL 0), true))), (.v (oMov (xT 4)), (some ((xL 1), true))), (.v (oIaddr 1 (xL 1) (xL 0)), (some ((xL 2), true))), (.v (oLoad (xL 0)), (some ((xL 3), true))), (.v (oMov (xT 0)), (some ((xL 4), true))), (.v (oMov (xT 4)), (some ((xL 5), true))), (.v (oBin .sub .no (xL 0) (ki 1)), (some ((xL 6), true))), (.v (oIaddr 1 (xL 2) (xL 0)), (some ((xL 7), true))), (.v (oLoad (xL 0)), (some ((xL 8), true))), (.c (cFn 305) [(xL 5), (xL 0)], (some ((xL 9), true))), (.v (oPick (xL 10) (xL 0) (xK (bool false))), none)] 0 [none, none, none, none, none, (some 0)] [])
 (kCond (xT 5) kSkip
 (kExit 2)))
 (kSeq (kBlock 3 (kDraw [(.v (oMov (xT 0)), none), (.v (oMov (xT 4)), none), (.v (oMov (xT 0)), none), (.v (oMov (xT 4)), none), (.v (oBin .sub .no (xL 0) (ki 1)), none), (.v (oMov (xT 0)), none), (.v (oMov (xT 4)), none), (.v (oBin .sub .no (xL 0) (ki 1)), none), (.v (oIaddr 1 (xL 2) (xL 0)), none), (.v (oLoad (xL 0)), none), (.v (oMov (xT 0)), none), (.v (oMov (xT 4)), none), (.v (oIaddr 1 (xL 1) (xL 0)), none), (.v (oLoad (xL 0)), none), (.v (oIaddr 1 (xL 13) (xL 12)), none), (.h (oStore 1 (xL 0) (xL 5)), none), (.v (oIaddr 1 (xL 13) (xL 11)), none), (.h (oStore 1 (xL 0) (xL 3)), none)] 0 [none, none, none, none, none, none] []))
 (kReg (sV (oMov (xT 4)) (sV (oBin .sub .no (xL 0) (ki 1)) (sS 4 (xL 0) sEnd))))))))))
 (kReg (sV (oMov (xT 3)) (sV (oBin .add .no (xL 0) (ki 1)) (sS 3 (xL 0) sEnd)))))))))
theorem t299 : FF d299 Tryz.f299 a299 [] := ff Tryz.func299 (by kernel_rfl)
def x299 : XFn := .go a299 3 pd3 []
def d308 : FD := ⟨308, 1, [2, 3, 20]⟩
def a308 : CodeF := (kSeq (kReg (sS 1 (xK (bool false)) sEnd))
 (kSeq (kSeq (kReg (sV (oLenL (xT 0)) (sV (oBin .sub .no (xL 0) (ki 1)) (sS 2 (xL 0) sEnd))))
 (kBlock 0 (kLoop (kSeq (kRegC (fun k => (sV (oBin .gtr .no (xT 2) (ki 0)) k)) (xL 0) kSkip
 (kExit 0))
 (kSeq (kBlock 1 (kSeq (kDraw [(.v (oMov (xT 0)), none), (.v (oMov (xT 2)), none), (.v (oIaddr 1 (xL 1) (xL 0)), none), (.v (oLoad (xL 0)), none), (.v (oMov (xT 0)), none), (.v (oMov (xT 2)), none), (.v (oBin .sub .no (xL 0) (ki 1)), none), (.v (oIaddr 1 (xL 2) (xL 0)), none), (.v (oLoad (xL 0)), none), (.c (cFn 305) [(xL 5), (xL 0)], none)] 0 [none, none, none, (some 0)] [])
 (kCond (xT 3) (kSeq (kReg (sS 1 (xK (bool false)) sEnd))
 kRet)
 kSkip)))
 (kReg (sV (oMov (xT 2)) (sV (oBin .sub .no (xL 0) (ki 1)) (sS 2 (xL 0) sEnd)))))))))
 (kSeq (kReg (sS 1 (xK (bool true)) sEnd))
 kRet)))
theorem t308 : FF d308 Tryz.f308 a308 [(.t 1)] := ff Tryz.func308 (by kernel_rfl)
def x308 : XFn := .go a308 1 pd3 [(.t 1)]
def d309 : FD := ⟨309, 3, [4, 5]⟩
def a309 : CodeF := (kSeq (kReg (sS 3 (ki 0) sEnd))
 (kBlock 0 (kLoop (kSeq (kRegC (fun k => (sV (oLoad (xT 1)) (sV (oLenL (xL 0)) (sV (oBin .lss .no (xT 3) (xL 0)) k)))) (xL 0) kSkip
 (kExit 0))
 (kSeq (kBlock 1 (kSeq (kDraw [(.v (oLoad (xT 2)), none), (.v (oLoad (xT 1)), none), (.v (oMov (xT 3)), none), (.v (oSlc 2 (xL 1) (some (xL 0)) none none), none), (.v (oLenL (xL 0)), none), (.v (oMm false (xL 4) [(xL 0)]), none), (.v (oMov (xL 0)), none)] 0 [none, none, none, none, (some 0)] [])
 (kRegC (fun k => (sV (oLoad (xT 1)) (sV (oBin .add .no (xT 3) (xT 4)) (sV (oBin .add .no (xT 3) (xT 4)) (sV (oSlc 2 (xL 2) (some (xT 3)) (some (xL 1)) (some (xL 0))) (sC (cVal (xT 0)) [(xL 0)] (sV (oUn .not (xL 0)) k))))))) (xL 0) kRet
 kSkip)))
 (kReg (sV (oMov (xT 3)) (sV (oLoad (xT 2)) (sV (oBin .add .no (xL 1) (xL 0)) (sS 3 (xL 0) sEnd))))))))))
theorem t309 : FF d309 Tryz.f309 a309 [] := ff Tryz.func309 (by kernel_rfl)
def x309 : XFn := .go a309 3 pd2 []
def d310 : FD := ⟨310, 1, [2]⟩
def a310 : CodeF := (kSeq (kReg (sS 1 (xK (bool false)) sEnd))
 (kSeq (kReg (sV (oBin .neq .no (xT 0) (xT 0)) (sS 1 (xL 0) sEnd)))
 kRet))
theorem t310 : FF d310 Tryz.f310 a310 [(.t 1)] := ff Tryz.func310 (by kernel_rfl)
def x310 : XFn := .go a310 1 pd1 [(.t 1)]
def d413 : FD := ⟨413, 3, [6]⟩
def a413 : CodeF := (kSeq (kReg (sS 3 (xK (bool false)) sEnd))
 (kSeq (kDraw [(.v (oMov (xT 0)), none), (.v (oMov (xT 1)), none), (.v (oIaddr 3 (xL 1) (xL 0)), none), (.v (oFaddr 0 (xL 0)), none), (.v (oLoad (xL 0)), none), (.v (oIaddr 1 (xL 0) (ki 0)), none), (.v (oLoad (xL 0)), none), (.v (oMov (xT 0)), none), (.v (oMov (xT 2)), none), (.v (oIaddr 3 (xL 1) (xL 0)), none), (.v (oFaddr 0 (xL 0)), none), (.v (oLoad (xL 0)), none), (.v (oIaddr 1 (xL 0) (ki 0)), none), (.v (oLoad (xL 0)), none), (.v (oBin .lss .no (xL 7) (xL 0)), none), (.v (oMov (xL 0)), none)] 0 [none, none, none, (some 0)] [])
 kRet))
theorem t413 : FF d413 Tryz.f413 a413 [(.t 3)] := ff Tryz.func413 (by kernel_rfl)
def x413 : XFn := .go a413 3 pd1 [(.t 3)]
def d414 : FD := ⟨414, 1, [2, 3, 4]⟩
def a414 : CodeF := (kSeq (kReg (sS 1 (xK nilif) sEnd))
 (kSeq (kReg (sV (oNilc (xT 0)) (sV (oFaddr 0 (xL 0)) (sV (oLoad (xL 0)) (sV (oLenL (xL 0)) (sV (oBin .sub .no (xL 0) (ki 1)) (sS 2 (xL 0) sEnd)))))))
 (kSeq (kReg (sV (oNilc (xT 0)) (sV (oFaddr 0 (xL 0)) (sV (oLoad (xL 0)) (sV (oIaddr 3 (xL 0) (xT 2)) (sV (oLoadN 3 (xL 0)) (sH (oAlloc 110 3 [nils, nils, (int .i64 (.ofNat 0))]) (sS 3 (xL 0) (sH (oStore 3 (xT 3) (xL 1)) sEnd)))))))))
 (kSeq (kReg (sV (oNilc (xT 0)) (sV (oFaddr 0 (xL 0)) (sV (oLoad (xL 0)) (sV (oSlc 3 (xL 0) none (some (xT 2)) none) (sV (oNilc (xT 0)) (sV (oFaddr 0 (xL 0)) (sH (oStore 1 (xL 0) (xL 2)) sEnd))))))))
 (kSeq (kReg (sV (oLoadN 3 (xT 3)) (sV (oMkif 110 (xL 0)) (sS 1 (xL 0) sEnd))))
 kRet)))))
theorem t414 : FF d414 Tryz.f414 a414 [(.t 1)] := ff Tryz.func414 (by kernel_rfl)
def x414 : XFn := .go a414 1 pd3 [(.t 1)]
def d415 : FD := ⟨415, 3, []⟩
def a415 : CodeF := (kDraw [(.v (oMov (xT 0)), none), (.v (oMov (xT 1)), none), (.v (oMov (xT 0)), none), (.v (oMov (xT 2)), none), (.v (oMov (xT 0)), none), (.v (oMov (xT 2)), none), (.v (oIaddr 3 (xL 1) (xL 0)), none), (.v (oLoadN 3 (xL 0)), none), (.v (oMov (xT 0)), none), (.v (oMov (xT 1)), none), (.v (oIaddr 3 (xL 1) (xL 0)), none), (.v (oLoadN 3 (xL 0)), none), (.v (oIaddr 3 (xL 11) (xL 10)), none), (.h (oStore 3 (xL 0) (xL 5)), none), (.v (oIaddr 3 (xL 11) (xL 10)), none), (.h (oStore 3 (xL 0) (xL 3)), none)] 0 [none, none, none] [])
theorem t415 : FF d415 Tryz.f415 a415 [] := ff Tryz.func415 (by kernel_rfl)
def x415 : XFn := .go a415 3 pd0 []
end
end Go.Proofs.YthaaihgllpehbaaGreatDoor
