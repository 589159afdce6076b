import Derived.Test.YtkkbhkdldbjlgaaGreatDoorP
import Derived.Test.YtkkbhkdldbjlgaaGreatDoorProg
import Derived.KernelRfl
/- The functions of the program as the interpreter has them; each is the program's, by the kernel. -/
set_option maxRecDepth 1000000
namespace Go.Proofs.YtkkbhkdldbjlgaaGreatDoor
open Go Go.Ai AVal
noncomputable section
def d192 : FD := ⟨192, 3, [4, 5]⟩
def a192 : CodeF := (kSeq (kReg (sS 3 (ki 0) sEnd))
 (kBlock 0 (kLoop (kSeq (kRegC (fun k => (sV (oLoad (xT 1)) (sV (oLenL (xL 0)) (sV (oBin .lss .no (xT 3) (xL 0)) k)))) (xL 0) kSkip
 (kExit 0))
 (kSeq (kBlock 1 (kSeq (kDraw [(.v (oLoad (xT 2)), none), (.v (oLoad (xT 1)), none), (.v (oMov (xT 3)), none), (.v (oSlc 1 (xL 1) (some (xL 0)) none none), none), (.v (oLenL (xL 0)), none), (.v (oMm false (xL 4) [(xL 0)]), none), (.v (oMov (xL 0)), none)] 0 [none, none, none, none, (some 0)] [])
 (kRegC (fun k => (sV (oLoad (xT 1)) (sV (oBin .add .no (xT 3) (xT 4)) (sV (oBin .add .no (xT 3) (xT 4)) (sV (oSlc 1 (xL 2) (some (xT 3)) (some (xL 1)) (some (xL 0))) (sC (cVal (xT 0)) [(xL 0)] (sV (oUn .not (xL 0)) k))))))) (xL 0) kRet
 kSkip)))
 (kReg (sV (oMov (xT 3)) (sV (oLoad (xT 2)) (sV (oBin .add .no (xL 1) (xL 0)) (sS 3 (xL 0) sEnd))))))))))
theorem t192 : FF d192 Tryz.f192 a192 [] := ff Tryz.func192 (by kernel_rfl)
def x192 : XFn := .go a192 3 pd2 []
def d193 : FD := ⟨193, 3, [6, 8, 7]⟩
def a193 : CodeF := (kSeq (kReg (sS 3 (xK nils) sEnd))
 (kSeq (kReg (sC (cFn 28) [(xT 0)] (sS 5 (xL 0) sEnd)))
 (kSeq (kReg (sC (cVal (xT 2)) [(xT 1)] (sS 4 (xL 0) sEnd)))
 (kSeq (kBlock 0 (kLoop (kSeq (kRegC (fun k => (sV (oBin .gtr .no (xT 4) (xK (int .u64 (.ofNat 127)))) k)) (xL 0) kSkip
 (kExit 0))
 (kSeq (kBlock 1 (kReg (sV (oMov (xT 5)) (sV (oConv .u8 (xT 4)) (sV (oBin .or .no (xL 0) (xK (int .u8 (.ofNat 128)))) (sH (oBsl 5 1 1 [(int .u8 (.ofNat 0))] [(0, 1, (xL 0))]) (sH (oApp 5 1 (xL 3) (xL 0)) (sS 5 (xL 0) sEnd))))))))
 (kReg (sV (oMov (xT 4)) (sV (oBin .shr .no (xL 0) (xK (int .u64 (.ofNat 7)))) (sS 4 (xL 0) sEnd))))))))
 (kSeq (kReg (sV (oConv .u8 (xT 4)) (sH (oBsl 5 1 1 [(int .u8 (.ofNat 0))] [(0, 1, (xL 0))]) (sH (oApp 5 1 (xT 5) (xL 0)) (sC (cFn 27) [(xL 0)] (sS 3 (xL 0) sEnd))))))
 kRet)))))
theorem t193 : FF d193 Tryz.f193 a193 [(.t 3)] := ff Tryz.func193 (by kernel_rfl)
def x193 : XFn := .go a193 3 pd3 [(.t 3)]
def d194 : FD := ⟨194, 1, [2]⟩
def a194 : CodeF := (kSeq (kReg (sS 1 (xK (int .u64 (.ofNat 0))) sEnd))
 (kSeq (kReg (sV (oBin .shl .no (xT 0) (xK (int .u64 (.ofNat 1)))) (sV (oConv .u64 (xL 0)) (sV (oBin .shr .no (xT 0) (xK (int .u64 (.ofNat 63)))) (sV (oConv .u64 (xL 0)) (sV (oBin .xor .no (xL 2) (xL 0)) (sS 1 (xL 0) sEnd)))))))
 kRet))
theorem t194 : FF d194 Tryz.f194 a194 [(.t 1)] := ff Tryz.func194 (by kernel_rfl)
def x194 : XFn := .go a194 1 pd1 [(.t 1)]
def d195 : FD := ⟨195, 1, [2, 3, 4, 5, 18, 19, 20, 17, 7, 63, 64, 65, 62, 9]⟩
def a195 : CodeF := (kSeq (kReg (sS 1 (xK nils) (sS 2 (xK (bool false)) sEnd)))
 (kSeq (kReg (sH (oAlloc 25 1 [nils]) (sS 3 (xL 0) sEnd)))
 (kSeq (kReg (sV (oMkfn 230 [] [(xT 3)]) (sS 4 (xL 0) sEnd)))
 (kSeq (kReg (sV (oLenL (xT 0)) (sV (oConv .u64 (xL 0)) (sC (cFn 72) [(xK nils), (xL 0)] (sC (cVal (xT 4)) [(xL 0)] sEnd)))))
 (kSeq (kSeq (kReg (sS 8 (xT 0) (sV (oLenL (xT 8)) (sS 5 (xL 0) (sS 6 (ki 0) sEnd)))))
 (kBlock 0 (kLoop (kSeq (kReg (sV (oBin .lss .no (xT 6) (xT 5)) (sS 7 (xL 0) sEnd)))
 (kSeq (kCond (xT 7) kSkip
 (kExit 0))
 (kSeq (kBlock 1 (kSeq (kReg (sV (oIaddr 3 (xT 8) (xT 6)) (sV (oLoadN 3 (xL 0)) (sH (oAlloc 69 3 [(str []), (str []), nils]) (sS 9 (xL 0) (sH (oStore 3 (xT 9) (xL 1)) sEnd))))))
 (kSeq (kRegC (fun k => (sV (oLenL (xT 0)) (sV (oBin .gtr .no (xL 0) (ki 64)) (sG (xL 0) false (sV (oFaddr 0 (xT 9))) (sG (xL 1) false (sV (oLoad (xL 0))) (sG (xL 2) false (sV (oLenS (xL 0))) (sG (xL 3) false (sV (oBin .gtr .no (xL 0) (ki 24))) (sV (oPick (xL 4) (xK (bool true)) (xL 0)) (sG (xL 0) false (sV (oFaddr 1 (xT 9))) (sG (xL 1) false (sV (oLoad (xL 0))) (sG (xL 2) false (sV (oLenS (xL 0))) (sG (xL 3) false (sV (oBin .gtr .no (xL 0) (ki 4096))) (sV (oPick (xL 4) (xK (bool true)) (xL 0)) (sG (xL 0) false (sV (oFaddr 2 (xT 9))) (sG (xL 1) false (sV (oLoad (xL 0))) (sG (xL 2) false (sV (oLenL (xL 0))) (sG (xL 3) false (sV (oBin .gtr .no (xL 0) (ki 4))) (sV (oPick (xL 4) (xK (bool true)) (xL 0)) k)))))))))))))))))) (xL 0) (kSeq (kReg (sS 1 (xK nils) (sS 2 (xK (bool false)) sEnd)))
 kRet)
 kSkip)
 (kSeq (kReg (sV (oFaddr 0 (xT 9)) (sV (oLoad (xL 0)) (sC (cFn 198) [(xK nils), (xL 0)] (sC (cVal (xT 4)) [(xL 0)] sEnd)))))
 (kSeq (kReg (sV (oFaddr 1 (xT 9)) (sV (oLoad (xL 0)) (sC (cFn 198) [(xK nils), (xL 0)] (sC (cVal (xT 4)) [(xL 0)] sEnd)))))
 (kSeq (kReg (sV (oFaddr 2 (xT 9)) (sV (oLoad (xL 0)) (sV (oLenL (xL 0)) (sV (oConv .u64 (xL 0)) (sC (cFn 72) [(xK nils), (xL 0)] (sC (cVal (xT 4)) [(xL 0)] sEnd)))))))
 (kSeq (kReg (sV (oFaddr 2 (xT 9)) (sV (oLoad (xL 0)) (sS 13 (xL 0) (sV (oLenL (xT 13)) (sS 10 (xL 0) (sS 11 (ki 0) sEnd)))))))
 (kBlock 2 (kLoop (kSeq (kReg (sV (oBin .lss .no (xT 11) (xT 10)) (sS 12 (xL 0) sEnd)))
 (kSeq (kCond (xT 12) kSkip
 (kExit 2))
 (kSeq (kBlock 3 (kSeq (kReg (sV (oIaddr 1 (xT 13) (xT 11)) (sV (oLoad (xL 0)) (sS 14 (xL 0) sEnd))))
 (kReg (sC (cFn 151) [(xK nils), (xT 14)] (sC (cVal (xT 4)) [(xL 0)] sEnd)))))
 (kReg (sV (oBin .add .no (xT 11) (ki 1)) (sS 11 (xL 0) sEnd)))))))))))))))
 (kReg (sV (oBin .add .no (xT 6) (ki 1)) (sS 6 (xL 0) sEnd)))))))))
 (kSeq (kReg (sV (oLoad (xT 3)) (sS 1 (xL 0) (sS 2 (xK (bool true)) sEnd))))
 kRet))))))
theorem t195 : FF d195 Tryz.f195 a195 [(.t 1), (.t 2)] := ff Tryz.func195 (by kernel_rfl)
def x195 : XFn := .go a195 1 pd14 [(.t 1), (.t 2)]
def d196 : FD := ⟨196, 2, [4, 5, 27, 28, 29, 26, 7, 6, 9, 10, 12, 13, 11, 102, 103, 104, 101, 15, 8]⟩
def a196 : CodeF := (kSeq (kReg (sS 2 (xK nils) (sS 3 (ki 0) sEnd)))
 (kSeq (kRegC (fun k => (sV (oLenL (xT 0)) (sV (oBin .gtr .no (xL 0) (ki 1048576)) (sG (xL 0) false (sV (oMov (xT 0))) (sG (xL 1) false (sV (oLenL (xL 0))) (sG (xL 2) false (sV (oMov (xT 1))) (sG (xL 3) false (sV (oLenL (xL 0))) (sG (xL 4) false (sV (oBin .neq .no (xL 2) (xL 0))) (sV (oPick (xL 5) (xK (bool true)) (xL 0)) k))))))))) (xL 0) (kSeq (kReg (sS 2 (xK nils) (sS 3 (ki 1) sEnd)))
 kRet)
 kSkip)
 (kSeq (kSeq (kReg (sS 7 (xT 0) (sV (oLenL (xT 7)) (sS 4 (xL 0) (sS 5 (ki 0) sEnd)))))
 (kBlock 0 (kLoop (kSeq (kReg (sV (oBin .lss .no (xT 5) (xT 4)) (sS 6 (xL 0) sEnd)))
 (kSeq (kCond (xT 6) kSkip
 (kExit 0))
 (kSeq (kBlock 1 (kSeq (kReg (sV (oIaddr 1 (xT 7) (xT 5)) (sV (oLoad (xL 0)) (sS 9 (xT 5) (sS 8 (xL 0) sEnd)))))
 (kRegC (fun k => (sV (oLenS (xT 8)) (sV (oBin .gtr .no (xL 0) (ki 4096)) (sG (xL 0) false (sV (oMov (xT 9))) (sG (xL 1) false (sV (oBin .gtr .no (xL 0) (ki 0))) (sG (xL 2) false (sV (oMov (xL 0))) (sG (xL 0) true (sV (oMov (xT 0))) (sG (xL 1) true (sV (oMov (xT 9))) (sG (xL 2) true (sV (oBin .sub .no (xL 0) (ki 1))) (sG (xL 3) true (sV (oIaddr 1 (xL 2) (xL 0))) (sG (xL 4) true (sV (oLoad (xL 0))) (sG (xL 5) true (sV (oMov (xT 8))) (sG (xL 6) true (sV (oBin .geq .no (xL 1) (xL 0))) (sG (xL 10) false (sV (oPick (xL 7) (xL 0) (xK (bool false)))) (sV (oPick (xL 11) (xK (bool true)) (xL 0)) k))))))))))))))) (xL 0) (kSeq (kReg (sS 2 (xK nils) (sS 3 (ki 1) sEnd)))
 kRet)
 kSkip)))
 (kReg (sV (oBin .add .no (xT 5) (ki 1)) (sS 5 (xL 0) sEnd)))))))))
 (kSeq (kReg (sV (oLenL (xT 0)) (sV (oConv .u64 (xL 0)) (sC (cFn 72) [(xK nils), (xL 0)] (sS 20 (xL 0) sEnd)))))
 (kSeq (kSeq (kReg (sS 10 (ki 0) sEnd))
 (kBlock 2 (kLoop (kSeq (kRegC (fun k => (sV (oLenL (xT 0)) (sV (oBin .lss .no (xT 10) (xL 0)) k))) (xL 0) kSkip
 (kExit 2))
 (kSeq (kBlock 3 (kSeq (kReg (sV (oBin .add .no (xT 10) (ki 16)) (sV (oLenL (xT 0)) (sV (oMm false (xL 1) [(xL 0)]) (sS 11 (xL 0) sEnd)))))
 (kSeq (kReg (sV (oIaddr 1 (xT 0) (xT 10)) (sV (oLoad (xL 0)) (sC (cFn 198) [(xK nils), (xL 0)] (sS 14 (xL 0) sEnd)))))
 (kSeq (kSeq (kReg (sV (oBin .add .no (xT 10) (ki 1)) (sS 12 (xL 0) sEnd)))
 (kBlock 4 (kLoop (kSeq (kRegC (fun k => (sV (oBin .lss .no (xT 12) (xT 11)) k)) (xL 0) kSkip
 (kExit 4))
 (kSeq (kBlock 5 (kSeq (kDraw [(.v (oMov (xT 0)), none), (.v (oMov (xT 12)), none), (.v (oBin .sub .no (xL 0) (ki 1)), none), (.v (oIaddr 1 (xL 2) (xL 0)), none), (.v (oLoad (xL 0)), none), (.v (oMov (xT 0)), none), (.v (oMov (xT 12)), none), (.v (oIaddr 1 (xL 1) (xL 0)), none), (.v (oLoad (xL 0)), none), (.c (cFn 210) [(xL 4), (xL 0)], none), (.v (oMov (xL 0)), none)] 0 [none, none, none, none, none, none, none, none, none, none, none, none, none, (some 0), none, none, none, none, none, none, none] [])
 (kDraw [(.v (oMov (xT 14)), none), (.v (oMov (xT 13)), none), (.v (oConv .u64 (xL 0)), none), (.c (cFn 72) [(xL 2), (xL 0)], none), (.v (oMov (xT 0)), none), (.v (oMov (xT 12)), none), (.v (oIaddr 1 (xL 1) (xL 0)), none), (.v (oLoad (xL 0)), none), (.v (oMov (xT 13)), none), (.v (oSlcs (xL 1) (some (xL 0)) none), none), (.c (cFn 198) [(xL 6), (xL 0)], none), (.v (oMov (xL 0)), none)] 0 [none, none, none, none, none, none, none, none, none, none, none, none, none, none, (some 0), none, none, none, none, none, none] [(4, 8)])))
 (kReg (sV (oMov (xT 12)) (sV (oBin .add .no (xL 0) (ki 1)) (sS 12 (xL 0) sEnd)))))))))
 (kSeq (kSeq (kReg (sV (oSlc 1 (xT 1) (some (xT 10)) (some (xT 11)) none) (sS 18 (xL 0) (sV (oLenL (xT 18)) (sS 15 (xL 0) (sS 16 (ki 0) sEnd))))))
 (kBlock 6 (kLoop (kSeq (kReg (sV (oBin .lss .no (xT 16) (xT 15)) (sS 17 (xL 0) sEnd)))
 (kSeq (kCond (xT 17) kSkip
 (kExit 6))
 (kSeq (kBlock 7 (kSeq (kReg (sV (oIaddr 1 (xT 18) (xT 16)) (sV (oLoad (xL 0)) (sS 19 (xL 0) sEnd))))
 (kReg (sV (oMov (xT 14)) (sC (cFn 72) [(xL 0), (xT 19)] (sS 14 (xL 0) sEnd))))))
 (kReg (sV (oBin .add .no (xT 16) (ki 1)) (sS 16 (xL 0) sEnd)))))))))
 (kReg (sV (oMov (xT 20)) (sH (oApp 5 1 (xL 0) (xT 14)) (sS 20 (xL 0) sEnd)))))))))
 (kReg (sV (oMov (xT 10)) (sV (oBin .add .no (xL 0) (ki 16)) (sS 10 (xL 0) sEnd)))))))))
 (kSeq (kReg (sC (cFn 27) [(xT 20)] (sS 2 (xL 0) (sS 3 (ki 0) sEnd))))
 kRet))))))
theorem t196 : FF d196 Tryz.f196 a196 [(.t 2), (.t 3)] := ff Tryz.func196 (by kernel_rfl)
def x196 : XFn := .go a196 2 pd19 [(.t 2), (.t 3)]
def d197 : FD := ⟨197, 1, [2, 3, 12, 13, 14, 11, 6, 4]⟩
def a197 : CodeF := (kSeq (kReg (sS 1 (xK nils) (sS 2 (xK (bool false)) sEnd)))
 (kSeq (kReg (sV (oLenL (xT 0)) (sV (oMm false (xL 0) [(ki 16384)]) (sH (oMksl 39 1 [nils] (ki 0) (xL 0)) (sS 8 (xL 0) sEnd)))))
 (kSeq (kSeq (kReg (sS 6 (xT 0) (sV (oLenL (xT 6)) (sS 3 (xL 0) (sS 4 (ki 0) sEnd)))))
 (kBlock 0 (kLoop (kSeq (kReg (sV (oBin .lss .no (xT 4) (xT 3)) (sS 5 (xL 0) sEnd)))
 (kSeq (kCond (xT 5) kSkip
 (kExit 0))
 (kSeq (kBlock 1 (kSeq (kReg (sV (oIaddr 1 (xT 6) (xT 4)) (sV (oLoad (xL 0)) (sS 7 (xL 0) sEnd))))
 (kSeq (kRegC (fun k => (sV (oLenL (xT 0)) (sV (oBin .gtr .no (xL 0) (ki 16384)) (sG (xL 0) false (sV (oMov (xT 7))) (sG (xL 1) false (sV (oLenL (xL 0))) (sG (xL 2) false (sV (oBin .gtr .no (xL 0) (ki 64))) (sV (oPick (xL 3) (xK (bool true)) (xL 0)) k))))))) (xL 0) (kSeq (kReg (sS 1 (xK nils) (sS 2 (xK (bool false)) sEnd)))
 kRet)
 kSkip)
 (kSeq (kReg (sV (oMov (xT 7)) (sC (cFn 231) [(xL 0)] (sS 7 (xL 0) sEnd))))
 (kSeq (kReg (sC (cFn 172) [(xT 7)] sEnd))
 (kReg (sV (oMov (xT 8)) (sH (oBsl 39 1 1 [nils] [(0, 1, (xT 7))]) (sH (oApp 39 1 (xL 1) (xL 0)) (sS 8 (xL 0) sEnd))))))))))
 (kReg (sV (oBin .add .no (xT 4) (ki 1)) (sS 4 (xL 0) sEnd)))))))))
 (kSeq (kReg (sS 1 (xT 8) (sS 2 (xK (bool true)) sEnd)))
 kRet))))
theorem t197 : FF d197 Tryz.f197 a197 [(.t 1), (.t 2)] := ff Tryz.func197 (by kernel_rfl)
def x197 : XFn := .go a197 1 pd8 [(.t 1), (.t 2)]
def d198 : FD := ⟨198, 2, [4]⟩
def a198 : CodeF := (kSeq (kReg (sS 2 (xK nils) sEnd))
 (kSeq (kReg (sV (oLenS (xT 1)) (sV (oConv .u64 (xL 0)) (sC (cFn 72) [(xT 0), (xL 0)] (sH (oApps 5 (xL 0) (xT 1)) (sC (cFn 27) [(xL 0)] (sS 2 (xL 0) sEnd)))))))
 kRet))
theorem t198 : FF d198 Tryz.f198 a198 [(.t 2)] := ff Tryz.func198 (by kernel_rfl)
def x198 : XFn := .go a198 2 pd1 [(.t 2)]
def d199 : FD := ⟨199, 2, [4, 5, 6, 8, 7, 9]⟩
def a199 : CodeF := (kSeq (kReg (sS 2 (ki 0) (sS 3 (xK (bool false)) sEnd)))
 (kSeq (kReg (sV (oLenL (xT 0)) (sS 4 (xL 0) sEnd)))
 (kSeq (kReg (sS 6 (ki 0) (sS 5 (xT 4) sEnd)))
 (kSeq (kBlock 0 (kLoop (kSeq (kRegC (fun k => (sV (oBin .lss .no (xT 6) (xT 5)) k)) (xL 0) kSkip
 (kExit 0))
 (kBlock 1 (kSeq (kReg (sV (oBin .add .no (xT 6) (xT 5)) (sV (oConv .u64 (xL 0)) (sV (oBin .shr .no (xL 0) (xK (int .u64 (.ofNat 1)))) (sV (oConv .i64 (xL 0)) (sS 7 (xL 0) sEnd))))))
 (kRegC (fun k => (sV (oIaddr 1 (xT 0) (xT 7)) (sV (oLoad (xL 0)) (sC (cFn 232) [(xL 0), (xT 1)] k)))) (xL 0) (kReg (sV (oBin .add .no (xT 7) (ki 1)) (sS 6 (xL 0) sEnd)))
 (kReg (sS 5 (xT 7) sEnd))))))))
 (kSeq (kReg (sV (oBin .lss .no (xT 6) (xT 4)) (sG (xL 0) true (sV (oMov (xT 0))) (sG (xL 1) true (sV (oMov (xT 6))) (sG (xL 2) true (sV (oIaddr 1 (xL 1) (xL 0))) (sG (xL 3) true (sV (oLoad (xL 0))) (sG (xL 4) true (sV (oMov (xT 1))) (sG (xL 5) true (sV (oBin .eql .no (xL 1) (xL 0))) (sG (xL 6) true (sV (oMov (xL 0))) (sG (xL 0) false (sV (oMov (xT 0))) (sG (xL 1) false (sV (oMov (xT 6))) (sG (xL 2) false (sV (oIaddr 1 (xL 1) (xL 0))) (sG (xL 3) false (sV (oLoad (xL 0))) (sG (xL 4) false (sC (cFn 233) [(xL 0)]) (sG (xL 5) false (sV (oMov (xL 0))) (sG (xL 0) true (sV (oMov (xT 1))) (sG (xL 1) true (sC (cFn 233) [(xL 0)]) (sG (xL 8) false (sV (oPick (xL 2) (xL 0) (xK (bool false)))) (sG (xL 16) true (sV (oPick (xL 9) (xK (bool true)) (xL 0))) (sV (oPick (xL 17) (xL 0) (xK (bool false))) (sS 2 (xT 6) (sS 3 (xL 0) sEnd))))))))))))))))))))))
 kRet)))))
theorem t199 : FF d199 Tryz.f199 a199 [(.t 2), (.t 3)] := ff Tryz.func199 (by kernel_rfl)
def x199 : XFn := .go a199 2 pd6 [(.t 2), (.t 3)]
def d200 : FD := ⟨200, 1, [2, 19, 20, 21, 18, 8, 7, 4, 5, 6, 3]⟩
def a200 : CodeF := (kSeq (kReg (sS 1 (xK nils) sEnd))
 (kSeq (kReg (sV (oLenL (xT 0)) (sV (oConv .u64 (xL 0)) (sC (cFn 72) [(xK nils), (xL 0)] (sS 11 (xL 0) sEnd)))))
 (kSeq (kReg (sV (oLenL (xT 0)) (sV (oBin .add .no (xL 0) (ki 7)) (sV (oBin .quo .no (xL 0) (ki 8)) (sH (oMksl 5 1 [(int .u8 (.ofNat 0))] (xL 0) (xL 0)) (sS 8 (xL 0) sEnd))))))
 (kSeq (kReg (sS 9 (xK nils) (sS 10 (xK nils) sEnd)))
 (kSeq (kSeq (kReg (sS 5 (xT 0) (sV (oLenL (xT 5)) (sS 2 (xL 0) (sS 3 (ki 0) sEnd)))))
 (kBlock 0 (kLoop (kSeq (kReg (sV (oBin .lss .no (xT 3) (xT 2)) (sS 4 (xL 0) sEnd)))
 (kSeq (kCond (xT 4) kSkip
 (kExit 0))
 (kSeq (kBlock 1 (kSeq (kReg (sV (oIaddr 1 (xT 5) (xT 3)) (sV (oLoad (xL 0)) (sS 7 (xT 3) (sS 6 (xL 0) sEnd)))))
 (kRegC (fun k => (sV (oLenL (xT 6)) (sV (oBin .gtr .no (xL 0) (ki 0)) k))) (xL 0) (kSeq (kDraw [(.v (oMov (xT 8)), none), (.v (oMov (xT 7)), none), (.v (oBin .quo .no (xL 0) (ki 8)), none), (.v (oIaddr 1 (xL 2) (xL 0)), none), (.v (oLoad (xL 0)), none), (.v (oMov (xT 7)), none), (.v (oBin .rem .no (xL 0) (ki 8)), none), (.v (oBin .shl .no (xK (int .u8 (.ofNat 1))) (xL 0)), none), (.v (oBin .or .no (xL 3) (xL 0)), none), (.v (oIaddr 1 (xL 8) (xL 6)), none), (.h (oStore 1 (xL 0) (xL 1)), none)] 0 [none, none, none, none, none, none, none, none, none, none, none, none] [])
 (kSeq (kReg (sV (oMov (xT 9)) (sV (oLenL (xT 6)) (sV (oBin .sub .no (xL 0) (ki 1)) (sH (oBsl 2 1 1 [(int .i64 (.ofNat 0))] [(0, 1, (xL 0))]) (sH (oApp 2 1 (xL 3) (xL 0)) (sS 9 (xL 0) sEnd)))))))
 (kReg (sV (oMov (xT 10)) (sH (oApp 2 1 (xL 0) (xT 6)) (sS 10 (xL 0) sEnd))))))
 kSkip)))
 (kReg (sV (oBin .add .no (xT 3) (ki 1)) (sS 3 (xL 0) sEnd)))))))))
 (kSeq (kReg (sV (oMov (xT 11)) (sH (oApp 5 1 (xL 0) (xT 8)) (sS 11 (xL 0) sEnd))))
 (kSeq (kReg (sV (oMov (xT 11)) (sC (cFn 73) [(xT 9)] (sH (oApp 5 1 (xL 1) (xL 0)) (sS 11 (xL 0) sEnd)))))
 (kSeq (kReg (sC (cFn 73) [(xT 10)] (sH (oApp 5 1 (xT 11) (xL 0)) (sS 1 (xL 0) sEnd))))
 kRet))))))))
theorem t200 : FF d200 Tryz.f200 a200 [(.t 1)] := ff Tryz.func200 (by kernel_rfl)
def x200 : XFn := .go a200 1 pd11 [(.t 1)]
def d201 : FD := ⟨201, 1, [2, 3, 12, 13, 14, 11, 6, 4]⟩
def a201 : CodeF := (kSeq (kReg (sS 1 (xK nils) (sS 2 (xK (bool false)) sEnd)))
 (kSeq (kReg (sV (oLenL (xT 0)) (sV (oMm false (xL 0) [(ki 16384)]) (sH (oMksl 67 1 [nils] (ki 0) (xL 0)) (sS 8 (xL 0) sEnd)))))
 (kSeq (kSeq (kReg (sS 6 (xT 0) (sV (oLenL (xT 6)) (sS 3 (xL 0) (sS 4 (ki 0) sEnd)))))
 (kBlock 0 (kLoop (kSeq (kReg (sV (oBin .lss .no (xT 4) (xT 3)) (sS 5 (xL 0) sEnd)))
 (kSeq (kCond (xT 5) kSkip
 (kExit 0))
 (kSeq (kBlock 1 (kSeq (kReg (sV (oIaddr 1 (xT 6) (xT 4)) (sV (oLoad (xL 0)) (sS 7 (xL 0) sEnd))))
 (kSeq (kRegC (fun k => (sV (oLenL (xT 0)) (sV (oBin .gtr .no (xL 0) (ki 16384)) (sG (xL 0) false (sV (oMov (xT 7))) (sG (xL 1) false (sV (oLenL (xL 0))) (sG (xL 2) false (sV (oBin .gtr .no (xL 0) (ki 64))) (sV (oPick (xL 3) (xK (bool true)) (xL 0)) k))))))) (xL 0) (kSeq (kReg (sS 1 (xK nils) (sS 2 (xK (bool false)) sEnd)))
 kRet)
 kSkip)
 (kSeq (kReg (sV (oMov (xT 7)) (sC (cFn 99) [(xL 0)] (sS 7 (xL 0) sEnd))))
 (kSeq (kReg (sC (cFn 174) [(xT 7)] sEnd))
 (kReg (sV (oMov (xT 8)) (sH (oBsl 67 1 1 [nils] [(0, 1, (xT 7))]) (sH (oApp 67 1 (xL 1) (xL 0)) (sS 8 (xL 0) sEnd))))))))))
 (kReg (sV (oBin .add .no (xT 4) (ki 1)) (sS 4 (xL 0) sEnd)))))))))
 (kSeq (kReg (sS 1 (xT 8) (sS 2 (xK (bool true)) sEnd)))
 kRet))))
theorem t201 : FF d201 Tryz.f201 a201 [(.t 1), (.t 2)] := ff Tryz.func201 (by kernel_rfl)
def x201 : XFn := .go a201 1 pd8 [(.t 1), (.t 2)]
def d202 : FD := ⟨202, 2, [4, 28, 29, 30, 27, 7, 5, 41, 42, 43, 40, 9, 10, 11, 12, 13, 14]⟩
def a202 : CodeF := (kSeq (kReg (sS 2 (xK nils) sEnd))
 (kSeq (kRegC (fun k => (sV (oLenL (xT 1)) (sV (oBin .leq .no (xL 0) (ki 8)) k))) (xL 0) (kSeq (kReg (sC (cFn 235) [(ki 0)] (sC (cFn 234) [(xT 1), (xL 0)] sEnd)))
 (kSeq (kReg (sH (oBsl 5 1 1 [(int .u8 (.ofNat 0))] [(0, 1, (xK (int .u8 (.ofNat 0))))]) (sV (oLenL (xT 1)) (sV (oConv .u64 (xL 0)) (sC (cFn 72) [(xK nils), (xL 0)] (sH (oApp 5 1 (xL 3) (xL 0)) (sS 8 (xL 0) sEnd)))))))
 (kSeq (kSeq (kReg (sS 6 (xT 1) (sV (oLenL (xT 6)) (sS 3 (xL 0) (sS 4 (ki 0) sEnd)))))
 (kBlock 0 (kLoop (kSeq (kReg (sV (oBin .lss .no (xT 4) (xT 3)) (sS 5 (xL 0) sEnd)))
 (kSeq (kCond (xT 5) kSkip
 (kExit 0))
 (kSeq (kBlock 1 (kSeq (kReg (sV (oIaddr 2 (xT 6) (xT 4)) (sV (oLoadN 2 (xL 0)) (sH (oAlloc 222 2 [(int .i64 (.ofNat 0)), nils]) (sS 7 (xL 0) (sH (oStore 2 (xT 7) (xL 1)) sEnd))))))
 (kSeq (kReg (sV (oMov (xT 8)) (sV (oFaddr 0 (xT 7)) (sV (oLoad (xL 0)) (sV (oConv .u64 (xL 0)) (sC (cFn 72) [(xK nils), (xL 0)] (sH (oApp 5 1 (xL 4) (xL 0)) (sS 8 (xL 0) sEnd))))))))
 (kSeq (kReg (sV (oFaddr 1 (xT 7)) (sV (oLoad (xL 0)) (sS 12 (xL 0) (sV (oLenL (xT 12)) (sS 9 (xL 0) (sS 10 (ki 0) sEnd)))))))
 (kBlock 2 (kLoop (kSeq (kReg (sV (oBin .lss .no (xT 10) (xT 9)) (sS 11 (xL 0) sEnd)))
 (kSeq (kCond (xT 11) kSkip
 (kExit 2))
 (kSeq (kBlock 3 (kSeq (kReg (sV (oIaddr 1 (xT 12) (xT 10)) (sV (oLoad (xL 0)) (sS 13 (xL 0) sEnd))))
 (kReg (sV (oMov (xT 8)) (sC (cFn 151) [(xK nils), (xT 13)] (sH (oApp 5 1 (xL 1) (xL 0)) (sS 8 (xL 0) sEnd)))))))
 (kReg (sV (oBin .add .no (xT 10) (ki 1)) (sS 10 (xL 0) sEnd))))))))))))
 (kReg (sV (oBin .add .no (xT 4) (ki 1)) (sS 4 (xL 0) sEnd)))))))))
 (kSeq (kReg (sS 2 (xT 8) sEnd))
 kRet))))
 kSkip)
 (kSeq (kReg (sC (cFn 236) [(xT 0), (xT 1)] (sS 14 (xL 0) sEnd)))
 (kSeq (kReg (sC (cFn 235) [(xT 14)] (sC (cFn 234) [(xT 1), (xL 0)] sEnd)))
 (kSeq (kReg (sV (oLenL (xT 1)) (sV (oBin .add .no (xL 0) (ki 1)) (sV (oBin .quo .no (xL 0) (ki 2)) (sS 15 (xL 0) sEnd)))))
 (kSeq (kReg (sV (oIaddr 2 (xT 1) (xT 15)) (sV (oFaddr 1 (xL 0)) (sV (oLoad (xL 0)) (sV (oIaddr 1 (xL 0) (xT 14)) (sV (oLoad (xL 0)) (sS 16 (xL 0) sEnd)))))))
 (kSeq (kReg (sV (oSlc 2 (xT 1) none (some (xT 15)) none) (sC (cFn 202) [(xT 0), (xL 0)] (sS 17 (xL 0) sEnd))))
 (kSeq (kReg (sH (oBsl 5 1 1 [(int .u8 (.ofNat 0))] [(0, 1, (xK (int .u8 (.ofNat 1))))]) (sV (oConv .u64 (xT 14)) (sC (cFn 72) [(xL 1), (xL 0)] (sC (cFn 151) [(xL 0), (xT 16)] (sS 18 (xL 0) sEnd))))))
 (kSeq (kReg (sV (oMov (xT 18)) (sV (oLenL (xT 17)) (sV (oConv .u64 (xL 0)) (sC (cFn 72) [(xK nils), (xL 0)] (sH (oApp 5 1 (xL 3) (xL 0)) (sS 18 (xL 0) sEnd)))))))
 (kSeq (kDraw [(.v (oMov (xT 18)), none), (.v (oMov (xT 17)), none), (.h (oApp 5 1 (xL 1) (xL 0)), none), (.v (oMov (xT 0)), none), (.v (oMov (xT 1)), none), (.v (oMov (xT 15)), none), (.v (oSlc 2 (xL 1) (some (xL 0)) none none), none), (.c (cFn 202) [(xL 3), (xL 0)], none), (.h (oApp 5 1 (xL 5) (xL 0)), none), (.v (oMov (xL 0)), none)] 0 [none, none, (some 0), none, none, none, none, none, none, none, none, none, none, none, none, none, none, none, none] [])
 kRet))))))))))
theorem t202 : FF d202 Tryz.f202 a202 [(.t 2)] := ff Tryz.func202 (by kernel_rfl)
def x202 : XFn := .go a202 2 pd17 [(.t 2)]
def d203 : FD := ⟨203, 1, [2]⟩
def a203 : CodeF := (kSeq (kReg (sS 1 (xK nils) sEnd))
 (kSeq (kRegC (fun k => (sV (oBin .eql .slice (xT 0) (xK nils)) k)) (xL 0) (kSeq (kReg (sS 1 (xK nils) sEnd))
 kRet)
 kSkip)
 (kSeq (kReg (sH (oBsl 222 2 0 [(int .i64 (.ofNat 0)), nils] []) (sH (oApp 222 2 (xL 0) (xT 0)) (sS 1 (xL 0) sEnd))))
 kRet)))
theorem t203 : FF d203 Tryz.f203 a203 [(.t 1)] := ff Tryz.func203 (by kernel_rfl)
def x203 : XFn := .go a203 1 pd1 [(.t 1)]
def d204 : FD := ⟨204, 2, [4]⟩
def a204 : CodeF := (kSeq (kReg (sS 2 (xK nils) sEnd))
 (kSeq (kRegC (fun k => (sV (oBin .lss .no (xT 1) (ki 0)) k)) (xL 0) (kReg (sV (oMkif 9 (xK (str [99, 97, 110, 110, 111, 116, 32, 98, 101, 32, 110, 101, 103, 97, 116, 105, 118, 101]))) (sPan (xL 0))))
 kSkip)
 (kSeq (kSeq (kReg (sV (oMov (xT 1)) (sV (oCap (xT 0)) (sV (oLenL (xT 0)) (sV (oBin .sub .no (xL 1) (xL 0)) (sV (oBin .sub .no (xL 3) (xL 0)) (sS 1 (xL 0) sEnd)))))))
 (kRegC (fun k => (sV (oBin .gtr .no (xT 1) (ki 0)) k)) (xL 0) (kReg (sV (oMov (xT 0)) (sV (oMov (xT 0)) (sV (oCap (xL 0)) (sV (oSlc 1 (xL 2) none (some (xL 0)) none) (sH (oAppm 5 1 [(int .u8 (.ofNat 0))] (xL 0) (xT 1)) (sV (oMov (xT 0)) (sV (oLenL (xL 0)) (sV (oSlc 1 (xL 2) none (some (xL 0)) none) (sS 0 (xL 0) sEnd))))))))))
 kSkip))
 (kSeq (kReg (sS 2 (xT 0) sEnd))
 kRet))))
theorem t204 : FF d204 Tryz.f204 a204 [(.t 2)] := ff Tryz.func204 (by kernel_rfl)
def x204 : XFn := .go a204 2 pd1 [(.t 2)]
def d205 : FD := ⟨205, 1, [2, 7, 8, 9, 6, 4, 3]⟩
def a205 : CodeF := (kSeq (kReg (sS 1 (xK (bool false)) sEnd))
 (kSeq (kSeq (kReg (sH (oS2b 5 (xT 0)) (sS 5 (xL 0) (sV (oLenL (xT 5)) (sS 2 (xL 0) (sS 3 (ki 0) sEnd))))))
 (kBlock 0 (kLoop (kSeq (kReg (sV (oBin .lss .no (xT 3) (xT 2)) (sS 4 (xL 0) sEnd)))
 (kSeq (kCond (xT 4) kSkip
 (kExit 0))
 (kSeq (kBlock 1 (kSeq (kReg (sV (oIaddr 1 (xT 5) (xT 3)) (sV (oLoad (xL 0)) (sS 7 (xT 3) (sS 6 (xL 0) sEnd)))))
 (kRegC (fun k => (sV (oBin .geq .no (xT 6) (xK (int .u8 (.ofNat 97)))) (sG (xL 0) true (sV (oMov (xT 6))) (sG (xL 1) true (sV (oBin .leq .no (xL 0) (xK (int .u8 (.ofNat 122))))) (sV (oPick (xL 2) (xL 0) (xK (bool false))) (sG (xL 0) false (sV (oMov (xT 6))) (sG (xL 1) false (sV (oBin .eql .no (xL 0) (xK (int .u8 (.ofNat 95))))) (sV (oPick (xL 2) (xK (bool true)) (xL 0)) (sG (xL 0) false (sV (oMov (xT 7))) (sG (xL 1) false (sV (oBin .gtr .no (xL 0) (ki 0))) (sG (xL 2) false (sV (oMov (xL 0))) (sG (xL 0) true (sV (oMov (xT 6))) (sG (xL 1) true (sV (oBin .geq .no (xL 0) (xK (int .u8 (.ofNat 48))))) (sG (xL 5) false (sV (oPick (xL 2) (xL 0) (xK (bool false)))) (sG (xL 6) false (sV (oMov (xL 0))) (sG (xL 0) true (sV (oMov (xT 6))) (sG (xL 1) true (sV (oBin .leq .no (xL 0) (xK (int .u8 (.ofNat 57))))) (sG (xL 9) false (sV (oPick (xL 2) (xL 0) (xK (bool false)))) (sV (oPick (xL 10) (xK (bool true)) (xL 0)) (sV (oUn .not (xL 0)) k)))))))))))))))))))) (xL 0) (kSeq (kReg (sS 1 (xK (bool false)) sEnd))
 kRet)
 kSkip)))
 (kReg (sV (oBin .add .no (xT 3) (ki 1)) (sS 3 (xL 0) sEnd)))))))))
 (kSeq (kReg (sV (oLenS (xT 0)) (sV (oBin .geq .no (xL 0) (ki 1)) (sG (xL 0) true (sV (oMov (xT 0))) (sG (xL 1) true (sV (oLenS (xL 0))) (sG (xL 2) true (sV (oBin .leq .no (xL 0) (ki 24))) (sV (oPick (xL 3) (xL 0) (xK (bool false))) (sS 1 (xL 0) sEnd))))))))
 kRet)))
theorem t205 : FF d205 Tryz.f205 a205 [(.t 1)] := ff Tryz.func205 (by kernel_rfl)
def x205 : XFn := .go a205 1 pd7 [(.t 1)]
def d206 : FD := ⟨206, 1, [2, 27, 28, 29, 26, 4, 3]⟩
def a206 : CodeF := (kSeq (kReg (sS 1 (ki 0) sEnd))
 (kSeq (kRegC (fun k => (sV (oLenL (xT 0)) (sV (oBin .lss .no (xL 0) (ki 1)) (sG (xL 0) false (sV (oMov (xT 0))) (sG (xL 1) false (sV (oLenL (xL 0))) (sG (xL 2) false (sV (oBin .gtr .no (xL 0) (ki 8))) (sV (oPick (xL 3) (xK (bool true)) (xL 0)) (sG (xL 0) false (sV (oMov (xT 0))) (sG (xL 1) false (sV (oIaddr 1 (xL 0) (ki 0))) (sG (xL 2) false (sV (oLoad (xL 0))) (sG (xL 3) false (sV (oBin .lss .no (xL 0) (ki 1))) (sV (oPick (xL 4) (xK (bool true)) (xL 0)) (sG (xL 0) false (sV (oMov (xT 0))) (sG (xL 1) false (sV (oIaddr 1 (xL 0) (ki 0))) (sG (xL 2) false (sV (oLoad (xL 0))) (sG (xL 3) false (sV (oBin .gtr .no (xL 0) (ki 4))) (sV (oPick (xL 4) (xK (bool true)) (xL 0)) k))))))))))))))))) (xL 0) (kSeq (kReg (sS 1 (ki 60) sEnd))
 kRet)
 kSkip)
 (kSeq (kSeq (kReg (sV (oSlc 1 (xT 0) (some (ki 1)) none none) (sS 5 (xL 0) (sV (oLenL (xT 5)) (sS 2 (xL 0) (sS 3 (ki 0) sEnd))))))
 (kBlock 0 (kLoop (kSeq (kReg (sV (oBin .lss .no (xT 3) (xT 2)) (sS 4 (xL 0) sEnd)))
 (kSeq (kCond (xT 4) kSkip
 (kExit 0))
 (kSeq (kBlock 1 (kSeq (kReg (sV (oIaddr 1 (xT 5) (xT 3)) (sV (oLoad (xL 0)) (sS 7 (xT 3) (sS 6 (xL 0) sEnd)))))
 (kRegC (fun k => (sC (cFn 237) [(xT 6)] (sV (oBin .eql .func (xL 0) (xK nilfunc)) (sG (xL 0) false (sV (oMov (xT 0))) (sG (xL 1) false (sV (oMov (xT 7))) (sG (xL 2) false (sV (oBin .add .no (xL 0) (ki 1))) (sG (xL 3) false (sV (oSlc 1 (xL 2) (some (ki 1)) (some (xL 0)) none)) (sG (xL 4) false (sV (oMov (xT 6))) (sG (xL 5) false (sC (cFn 238) [(xL 1), (xL 0)]) (sV (oPick (xL 6) (xK (bool true)) (xL 0)) k)))))))))) (xL 0) (kSeq (kReg (sS 1 (ki 60) sEnd))
 kRet)
 kSkip)))
 (kReg (sV (oBin .add .no (xT 3) (ki 1)) (sS 3 (xL 0) sEnd)))))))))
 (kSeq (kReg (sS 1 (ki 0) sEnd))
 kRet))))
theorem t206 : FF d206 Tryz.f206 a206 [(.t 1)] := ff Tryz.func206 (by kernel_rfl)
def x206 : XFn := .go a206 1 pd7 [(.t 1)]
def d207 : FD := ⟨207, 2, [4, 5, 7, 6]⟩
def a207 : CodeF := (kSeq (kReg (sS 2 (xK (str [])) sEnd))
 (kSeq (kReg (sS 3 (xK (str [])) sEnd))
 (kSeq (kRegC (fun k => (sV (oBin .eql .ptr (xT 0) (xK nilptr)) (sG (xL 0) false (sV (oMov (xT 0))) (sG (xL 1) false (sV (oNilc (xL 0))) (sG (xL 2) false (sV (oFaddr 2 (xL 0))) (sG (xL 3) false (sV (oLoad (xL 0))) (sG (xL 4) false (sV (oBin .neq .no (xL 0) (ki 0))) (sV (oPick (xL 5) (xK (bool true)) (xL 0)) k)))))))) (xL 0) (kSeq (kReg (sS 2 (xT 3) sEnd))
 kRet)
 kSkip)
 (kSeq (kDraw [(.v (oMov (xT 1)), none), (.v (oMov (xT 0)), none), (.v (oNilc (xL 0)), none), (.v (oFaddr 0 (xL 0)), none), (.v (oLoad (xL 0)), none), (.v (oMov (xT 0)), none), (.v (oNilc (xL 0)), none), (.v (oFaddr 1 (xL 0)), none), (.v (oLoad (xL 0)), none), (.v (oSlc 1 (xL 4) (some (xL 0)) none none), none), (.c (cVal (xL 9)) [(xL 0)], none), (.v (oMov (xL 0)), none), (.v (oExt 0 (xL 0)), none), (.v (oExt 1 (xL 1)), none), (.v (oMov (xL 1)), none), (.v (oMov (xL 1)), none)] 0 [none, none, none, none, (some 0), (some 1)] [])
 (kSeq (kRegC (fun k => (sV (oBin .lss .no (xT 4) (ki 0)) k)) (xL 0) (kSeq (kReg (sV (oNilc (xT 0)) (sV (oFaddr 2 (xL 0)) (sH (oStore 1 (xL 0) (ki 20)) sEnd))))
 (kSeq (kReg (sS 2 (xT 3) sEnd))
 kRet))
 kSkip)
 (kSeq (kReg (sV (oNilc (xT 0)) (sV (oFaddr 1 (xL 0)) (sV (oLoad (xL 0)) (sV (oBin .add .no (xL 0) (xT 4)) (sV (oNilc (xT 0)) (sV (oFaddr 1 (xL 0)) (sH (oStore 1 (xL 0) (xL 2)) sEnd))))))))
 (kSeq (kReg (sS 2 (xT 5) sEnd))
 kRet)))))))
theorem t207 : FF d207 Tryz.f207 a207 [(.t 2)] := ff Tryz.func207 (by kernel_rfl)
def x207 : XFn := .go a207 2 pd4 [(.t 2)]
def d208 : FD := ⟨208, 3, [4, 5, 7, 6]⟩
def a208 : CodeF := (kSeq (kReg (sS 3 (xK (str [])) (sS 4 (ki 0) sEnd)))
 (kSeq (kReg (sV (oLoad (xT 1)) (sC (cFn 123) [(xL 0), (xT 0)] (sV (oExt 0 (xL 0)) (sV (oExt 1 (xL 1)) (sS 6 (xL 1) (sS 5 (xL 0) sEnd)))))))
 (kSeq (kRegC (fun k => (sV (oBin .lss .no (xT 5) (ki 0)) (sG (xL 0) false (sV (oLoad (xT 2))) (sG (xL 1) false (sV (oBin .lss .no (xL 0) (ki 0))) (sV (oPick (xL 2) (xK (bool true)) (xL 0)) (sG (xL 0) false (sV (oMov (xT 6))) (sG (xL 1) false (sV (oLoad (xT 2))) (sG (xL 2) false (sV (oConv .u64 (xL 0))) (sG (xL 3) false (sV (oBin .gtr .no (xL 2) (xL 0))) (sV (oPick (xL 4) (xK (bool true)) (xL 0)) (sG (xL 0) false (sV (oMov (xT 6))) (sG (xL 1) false (sV (oMov (xT 0))) (sG (xL 2) false (sV (oLenL (xL 0))) (sG (xL 3) false (sV (oMov (xT 5))) (sG (xL 4) false (sV (oBin .sub .no (xL 1) (xL 0))) (sG (xL 5) false (sV (oConv .u64 (xL 0))) (sG (xL 6) false (sV (oBin .gtr .no (xL 5) (xL 0))) (sV (oPick (xL 7) (xK (bool true)) (xL 0)) k)))))))))))))))))) (xL 0) (kSeq (kReg (sS 3 (xK (str [])) (sS 4 (xK (int .i64 (.negSucc 0))) sEnd)))
 kRet)
 kSkip)
 (kSeq (kReg (sV (oConv .i64 (xT 6)) (sV (oBin .add .no (xT 5) (xL 0)) (sV (oSlc 1 (xT 0) (some (xT 5)) (some (xL 0)) none) (sV (oB2s (xL 0)) (sV (oConv .i64 (xT 6)) (sV (oBin .add .no (xT 5) (xL 0)) (sS 3 (xL 2) (sS 4 (xL 0) sEnd)))))))))
 kRet))))
theorem t208 : FF d208 Tryz.f208 a208 [(.t 3), (.t 4)] := ff Tryz.func208 (by kernel_rfl)
def x208 : XFn := .go a208 3 pd4 [(.t 3), (.t 4)]
def d209 : FD := ⟨209, 3, [4, 5, 6]⟩
def a209 : CodeF := (kSeq (kReg (sS 3 (xK (str [])) sEnd))
 (kSeq (kRegC (fun k => (sV (oBin .eql .no (xT 0) (ki 0)) k)) (xL 0) (kSeq (kReg (sV (oLoad (xT 1)) (sC (cFn 163) [(xL 0), (ki 4096)] (sS 3 (xL 0) sEnd))))
 kRet)
 kSkip)
 (kSeq (kDraw [(.v (oLoad (xT 1)), none), (.v (oLoad (xT 2)), none), (.v (oMov (xT 0)), none), (.v (oBin .sub .no (xL 0) (ki 1)), none), (.v (oIaddr 1 (xL 2) (xL 0)), none), (.v (oLoad (xL 0)), none), (.v (oLenS (xL 0)), none), (.c (cFn 61) [(xL 6), (xL 0)], none), (.v (oMov (xL 0)), none)] 0 [none, none, none, none, (some 0), none] [])
 (kSeq (kDraw [(.v (oLoad (xT 2)), none), (.v (oMov (xT 0)), none), (.v (oBin .sub .no (xL 0) (ki 1)), none), (.v (oIaddr 1 (xL 2) (xL 0)), none), (.v (oLoad (xL 0)), none), (.v (oMov (xT 4)), none), (.v (oSlcs (xL 1) none (some (xL 0))), none), (.v (oLoad (xT 1)), none), (.c (cFn 163) [(xL 0), (ki 4096)], none), (.v (oBin .add .no (xL 2) (xL 0)), none), (.v (oMov (xL 0)), none)] 0 [none, none, none, none, none, (some 0)] [(10, 2), (6, 2)])
 (kSeq (kRegC (fun k => (sV (oLoad (xT 1)) (sC (cFn 66) [(xL 0)] (sV (oBin .neq .no (xL 0) (ki 0)) (sG (xL 0) false (sV (oMov (xT 5))) (sG (xL 1) false (sV (oLoad (xT 2))) (sG (xL 2) false (sV (oMov (xT 0))) (sG (xL 3) false (sV (oBin .sub .no (xL 0) (ki 1))) (sG (xL 4) false (sV (oIaddr 1 (xL 2) (xL 0))) (sG (xL 5) false (sV (oLoad (xL 0))) (sG (xL 6) false (sV (oBin .leq .no (xL 5) (xL 0))) (sV (oPick (xL 7) (xK (bool true)) (xL 0)) (sG (xL 0) false (sV (oLoad (xT 2))) (sG (xL 1) false (sV (oMov (xT 0))) (sG (xL 2) false (sV (oBin .sub .no (xL 0) (ki 1))) (sG (xL 3) false (sV (oIaddr 1 (xL 2) (xL 0))) (sG (xL 4) false (sV (oLoad (xL 0))) (sG (xL 5) false (sV (oMov (xT 5))) (sG (xL 6) false (sC (cFn 210) [(xL 1), (xL 0)]) (sG (xL 7) false (sV (oMov (xT 4))) (sG (xL 8) false (sV (oBin .neq .no (xL 1) (xL 0))) (sV (oPick (xL 9) (xK (bool true)) (xL 0)) (sG (xL 0) false (sV (oMov (xT 5))) (sG (xL 1) false (sV (oLenS (xL 0))) (sG (xL 2) false (sV (oBin .gtr .no (xL 0) (ki 4096))) (sV (oPick (xL 3) (xK (bool true)) (xL 0)) k)))))))))))))))))))))))))) (xL 0) (kSeq (kReg (sS 3 (xK (str [])) sEnd))
 kRet)
 kSkip)
 (kSeq (kReg (sS 3 (xT 5) sEnd))
 kRet))))))
theorem t209 : FF d209 Tryz.f209 a209 [(.t 3)] := ff Tryz.func209 (by kernel_rfl)
def x209 : XFn := .go a209 3 pd3 [(.t 3)]
def d210 : FD := ⟨210, 2, [4, 5, 24]⟩
def a210 : CodeF := (kSeq (kReg (sS 2 (ki 0) sEnd))
 (kSeq (kReg (sS 3 (ki 0) sEnd))
 (kSeq (kBlock 0 (kLoop (kSeq (kSeq (kDraw [(.v (oMov (xT 3)), none), (.v (oMov (xT 0)), none), (.v (oLenS (xL 0)), none), (.v (oBin .lss .no (xL 2) (xL 0)), none), (.v (oMov (xL 0)), none), (.v (oMov (xT 3)), (some ((xL 0), true))), (.v (oMov (xT 1)), (some ((xL 1), true))), (.v (oLenS (xL 0)), (some ((xL 2), true))), (.v (oBin .lss .no (xL 2) (xL 0)), (some ((xL 3), true))), (.v (oPick (xL 4) (xL 0) (xK (bool false))), none), (.v (oMov (xL 0)), none), (.v (oMov (xT 0)), (some ((xL 0), true))), (.v (oMov (xT 3)), (some ((xL 1), true))), (.v (oIdx (xL 1) (xL 0)), (some ((xL 2), true))), (.v (oMov (xT 1)), (some ((xL 3), true))), (.v (oMov (xT 3)), (some ((xL 4), true))), (.v (oIdx (xL 1) (xL 0)), (some ((xL 5), true))), (.v (oBin .eql .no (xL 3) (xL 0)), (some ((xL 6), true))), (.v (oPick (xL 7) (xL 0) (xK (bool false))), none)] 0 [none, none, none, none, (some 0)] [])
 (kCond (xT 4) kSkip
 (kExit 0)))
 (kBlock 1 (kReg (sV (oMov (xT 3)) (sV (oBin .add .no (xL 0) (ki 1)) (sS 3 (xL 0) sEnd))))))))
 (kSeq (kReg (sS 2 (xT 3) sEnd))
 kRet))))
theorem t210 : FF d210 Tryz.f210 a210 [(.t 2)] := ff Tryz.func210 (by kernel_rfl)
def x210 : XFn := .go a210 2 pd3 [(.t 2)]
def d211 : FD := ⟨211, 1, [2]⟩
def a211 : CodeF := (kSeq (kReg (sS 1 (xK (int .u64 (.ofNat 0))) sEnd))
 (kSeq (kReg (sV (oMkfn 123 [(xT 0)] []) (sC (cFn 181) [(xT 0), (xL 0)] (sS 1 (xL 0) sEnd))))
 kRet))
theorem t211 : FF d211 Tryz.f211 a211 [(.t 1)] := ff Tryz.func211 (by kernel_rfl)
def x211 : XFn := .go a211 1 pd1 [(.t 1)]
def d212 : FD := ⟨212, 2, [4, 12, 5, 29, 30, 31, 28, 8, 9, 10, 11, 6]⟩
def a212 : CodeF := (kSeq (kReg (sS 2 (xK nils) sEnd))
 (kSeq (kSeq (kReg (sS 3 (xT 0) sEnd))
 (kBlock 0 (kRegC (fun k => (sV (oBin .eql .no (xT 3) (ki 1)) k)) (xL 0) (kSeq (kReg (sC (cFn 239) [(xT 1)] (sS 2 (xL 0) sEnd)))
 kRet)
 (kRegC (fun k => (sV (oBin .eql .no (xT 3) (ki 2)) k)) (xL 0) (kSeq (kReg (sS 4 (xK (.func (.func 240) [] [])) sEnd))
 (kSeq (kReg (sC (cFn 242) [(xT 1), (xT 4), (xT 4)] (sS 2 (xL 0) sEnd)))
 kRet))
 (kRegC (fun k => (sV (oBin .eql .no (xT 3) (ki 3)) k)) (xL 0) (kSeq (kReg (sC (cFn 242) [(xT 1), (xK (.func (.func 243) [] [])), (xK (.func (.func 244) [] []))] (sS 2 (xL 0) sEnd)))
 kRet)
 kSkip)))))
 (kSeq (kReg (sS 13 (xK nils) sEnd))
 (kSeq (kSeq (kReg (sC (cFn 239) [(xT 1)] (sS 8 (xL 0) (sV (oLenL (xT 8)) (sS 5 (xL 0) (sS 6 (ki 0) sEnd))))))
 (kBlock 1 (kLoop (kSeq (kReg (sV (oBin .lss .no (xT 6) (xT 5)) (sS 7 (xL 0) sEnd)))
 (kSeq (kCond (xT 7) kSkip
 (kExit 1))
 (kSeq (kBlock 2 (kSeq (kReg (sV (oIaddr 4 (xT 8) (xT 6)) (sV (oLoadN 4 (xL 0)) (sH (oAlloc 292 4 [(str []), (int .i64 (.ofNat 0)), (int .i64 (.ofNat 0)), (int .i64 (.ofNat 0))]) (sS 9 (xL 0) (sH (oStore 4 (xT 9) (xL 1)) sEnd))))))
 (kSeq (kReg (sV (oFaddr 0 (xT 9)) (sV (oLoad (xL 0)) (sC (cFn 245) [(xL 0)] (sS 10 (xL 0) sEnd)))))
 (kSeq (kReg (sV (oLenL (xT 10)) (sV (oBin .sub .no (xL 0) (ki 1)) (sV (oMm false (ki 2) [(xL 0)]) (sS 11 (xL 0) sEnd)))))
 (kSeq (kReg (sS 12 (ki 0) sEnd))
 (kBlock 3 (kLoop (kSeq (kRegC (fun k => (sV (oBin .add .no (xT 12) (xT 11)) (sV (oLenL (xT 10)) (sV (oBin .lss .no (xL 1) (xL 0)) k)))) (xL 0) kSkip
 (kExit 3))
 (kSeq (kBlock 4 (kDraw [(.v (oMov (xT 13)), none), (.v (oFaddr 0 (xT 9)), none), (.v (oLoad (xL 0)), none), (.v (oMov (xT 10)), none), (.v (oMov (xT 12)), none), (.v (oIaddr 1 (xL 1) (xL 0)), none), (.v (oLoad (xL 0)), none), (.v (oMov (xT 10)), none), (.v (oMov (xT 12)), none), (.v (oMov (xT 11)), none), (.v (oBin .add .no (xL 1) (xL 0)), none), (.v (oIaddr 1 (xL 3) (xL 0)), none), (.v (oLoad (xL 0)), none), (.v (oSlcs (xL 10) (some (xL 6)) (some (xL 0))), none), (.v (oMov (xT 13)), none), (.v (oLenL (xL 0)), none), (.v (oFaddr 2 (xT 9)), none), (.v (oLoad (xL 0)), none), (.v (oMov (xT 10)), none), (.v (oMov (xT 12)), none), (.v (oIaddr 1 (xL 1) (xL 0)), none), (.v (oLoad (xL 0)), none), (.v (oBin .add .no (xL 4) (xL 0)), none), (.v (oFaddr 2 (xT 9)), none), (.v (oLoad (xL 0)), none), (.v (oMov (xT 10)), none), (.v (oMov (xT 12)), none), (.v (oMov (xT 11)), none), (.v (oBin .add .no (xL 1) (xL 0)), none), (.v (oIaddr 1 (xL 3) (xL 0)), none), (.v (oLoad (xL 0)), none), (.v (oBin .add .no (xL 6) (xL 0)), none), (.v (oBuild [(str []), (int .i64 (.ofNat 0)), (int .i64 (.ofNat 0)), (int .i64 (.ofNat 0))] [(0, 1, (xL 18)), (1, 1, (xL 16)), (2, 1, (xL 9)), (3, 1, (xL 0))]), none), (.h (oBsl 292 4 1 [(str []), (int .i64 (.ofNat 0)), (int .i64 (.ofNat 0)), (int .i64 (.ofNat 0))] [(0, 4, (xL 0))]), none), (.h (oApp 292 4 (xL 33) (xL 0)), none), (.v (oMov (xL 0)), none)] 0 [none, none, none, none, none, none, none, none, none, none, none, none, none, (some 0)] []))
 (kReg (sV (oMov (xT 12)) (sV (oBin .add .no (xL 0) (ki 1)) (sS 12 (xL 0) sEnd)))))))))))))
 (kReg (sV (oBin .add .no (xT 6) (ki 1)) (sS 6 (xL 0) sEnd)))))))))
 (kSeq (kReg (sS 2 (xT 13) sEnd))
 kRet)))))
theorem t212 : FF d212 Tryz.f212 a212 [(.t 2)] := ff Tryz.func212 (by kernel_rfl)
def x212 : XFn := .go a212 2 pd12 [(.t 2)]
def d213 : FD := ⟨213, 2, [4, 5, 6, 15, 16, 17, 14, 9, 7]⟩
def a213 : CodeF := (kSeq (kReg (sS 2 (xK nils) (sS 3 (ki 0) sEnd)))
 (kSeq (kReg (sC (cFn 237) [(xT 0)] (sS 4 (xL 0) sEnd)))
 (kSeq (kRegC (fun k => (sV (oBin .eql .func (xT 4) (xK nilfunc)) k)) (xL 0) (kSeq (kReg (sS 2 (xK nils) (sS 3 (ki 60) sEnd)))
 kRet)
 kSkip)
 (kSeq (kReg (sS 10 (xK nils) sEnd))
 (kSeq (kSeq (kReg (sS 8 (xT 1) (sV (oLenL (xT 8)) (sS 5 (xL 0) (sS 6 (ki 0) sEnd)))))
 (kBlock 0 (kLoop (kSeq (kReg (sV (oBin .lss .no (xT 6) (xT 5)) (sS 7 (xL 0) sEnd)))
 (kSeq (kCond (xT 7) kSkip
 (kExit 0))
 (kSeq (kBlock 1 (kSeq (kReg (sV (oIaddr 4 (xT 8) (xT 6)) (sV (oLoadN 4 (xL 0)) (sH (oAlloc 292 4 [(str []), (int .i64 (.ofNat 0)), (int .i64 (.ofNat 0)), (int .i64 (.ofNat 0))]) (sS 9 (xL 0) (sH (oStore 4 (xT 9) (xL 1)) sEnd))))))
 (kSeq (kReg (sV (oMov (xT 10)) (sV (oLoadN 4 (xT 9)) (sC (cVal (xT 4)) [(xL 0)] (sH (oApp 292 4 (xL 2) (xL 0)) (sS 10 (xL 0) sEnd))))))
 (kRegC (fun k => (sV (oLenL (xT 10)) (sV (oBin .gtr .no (xL 0) (ki 4096)) k))) (xL 0) (kSeq (kReg (sS 2 (xK nils) (sS 3 (ki 84) sEnd)))
 kRet)
 kSkip))))
 (kReg (sV (oBin .add .no (xT 6) (ki 1)) (sS 6 (xL 0) sEnd)))))))))
 (kSeq (kReg (sS 2 (xT 10) (sS 3 (ki 0) sEnd)))
 kRet))))))
theorem t213 : FF d213 Tryz.f213 a213 [(.t 2), (.t 3)] := ff Tryz.func213 (by kernel_rfl)
def x213 : XFn := .go a213 2 pd9 [(.t 2), (.t 3)]
def d214 : FD := ⟨214, 2, [4, 5]⟩
def a214 : CodeF := (kSeq (kReg (sS 2 (xK (str [])) (sS 3 (xK (bool false)) sEnd)))
 (kSeq (kReg (sC (cFn 246) [(xT 0), (xT 1)] (sV (oExt 0 (xL 0)) (sV (oExt 1 (xL 1)) (sS 2 (xL 1) (sS 3 (xL 0) sEnd))))))
 kRet))
theorem t214 : FF d214 Tryz.f214 a214 [(.t 2), (.t 3)] := ff Tryz.func214 (by kernel_rfl)
def x214 : XFn := .go a214 2 pd2 [(.t 2), (.t 3)]
def d215 : FD := ⟨215, 2, [4, 5, 6]⟩
def a215 : CodeF := (kSeq (kReg (sS 2 (xK (str [])) (sS 3 (xK (str [])) (sS 4 (xK (bool false)) sEnd))))
 (kSeq (kReg (sC (cFn 247) [(xT 0), (xT 1)] (sV (oExt 0 (xL 0)) (sV (oExt 1 (xL 1)) (sV (oExt 2 (xL 2)) (sS 2 (xL 2) (sS 3 (xL 1) (sS 4 (xL 0) sEnd))))))))
 kRet))
theorem t215 : FF d215 Tryz.f215 a215 [(.t 2), (.t 3), (.t 4)] := ff Tryz.func215 (by kernel_rfl)
def x215 : XFn := .go a215 2 pd3 [(.t 2), (.t 3), (.t 4)]
def d216 : FD := ⟨216, 3, [6]⟩
def a216 : CodeF := (kSeq (kReg (sS 3 (xK (bool false)) sEnd))
 (kSeq (kReg (sV (oLenS (xT 0)) (sV (oBin .geq .no (xL 0) (xT 1)) (sG (xL 0) true (sV (oMov (xT 0))) (sG (xL 1) true (sV (oLenS (xL 0))) (sG (xL 2) true (sV (oMov (xT 2))) (sG (xL 3) true (sV (oBin .leq .no (xL 1) (xL 0))) (sV (oPick (xL 4) (xL 0) (xK (bool false))) (sG (xL 0) true (sV (oMov (xT 0))) (sG (xL 1) true (sC (cFn 248) [(xL 0), (xK (.func (.func 249) [] []))]) (sG (xL 2) true (sV (oBin .lss .no (xL 0) (ki 0))) (sV (oPick (xL 3) (xL 0) (xK (bool false))) (sS 3 (xL 0) sEnd)))))))))))))
 kRet))
theorem t216 : FF d216 Tryz.f216 a216 [(.t 3)] := ff Tryz.func216 (by kernel_rfl)
def x216 : XFn := .go a216 3 pd1 [(.t 3)]
def d217 : FD := ⟨217, 2, [4, 11, 6, 5, 42, 43, 7, 8, 9, 10]⟩
def a217 : CodeF := (kSeq (kReg (sS 2 (xK (str [])) sEnd))
 (kSeq (kSeq (kReg (sS 3 (xT 1) sEnd))
 (kBlock 0 (kRegC (fun k => (sV (oBin .eql .no (xT 3) (ki 0)) k)) (xL 0) (kSeq (kReg (sS 2 (xK (str [])) sEnd))
 kRet)
 (kRegC (fun k => (sV (oBin .eql .no (xT 3) (ki 1)) k)) (xL 0) (kSeq (kReg (sS 2 (xT 0) sEnd))
 kRet)
 kSkip))))
 (kSeq (kRegC (fun k => (sV (oBin .lss .no (xT 1) (ki 0)) k)) (xL 0) (kReg (sV (oMkif 9 (xK (str [115, 116, 114, 105, 110, 103, 115, 58, 32, 110, 101, 103, 97, 116, 105, 118, 101, 32, 82, 101, 112, 101, 97, 116, 32, 99, 111, 117, 110, 116]))) (sPan (xL 0))))
 kSkip)
 (kSeq (kReg (sV (oLenS (xT 0)) (sV (oConv .u64 (xL 0)) (sV (oConv .u64 (xT 1)) (sC (cFn 250) [(xL 1), (xL 0)] (sV (oExt 0 (xL 0)) (sV (oExt 1 (xL 1)) (sS 5 (xL 1) (sS 4 (xL 0) sEnd)))))))))
 (kSeq (kRegC (fun k => (sV (oBin .gtr .no (xT 5) (xK (int .u64 (.ofNat 0)))) (sG (xL 0) false (sV (oMov (xT 4))) (sG (xL 1) false (sV (oBin .gtr .no (xL 0) (xK (int .u64 (.ofNat 9223372036854775807))))) (sV (oPick (xL 2) (xK (bool true)) (xL 0)) k))))) (xL 0) (kReg (sV (oMkif 9 (xK (str [115, 116, 114, 105, 110, 103, 115, 58, 32, 82, 101, 112, 101, 97, 116, 32, 111, 117, 116, 112, 117, 116, 32, 108, 101, 110, 103, 116, 104, 32, 111, 118, 101, 114, 102, 108, 111, 119]))) (sPan (xL 0))))
 kSkip)
 (kSeq (kReg (sV (oConv .i64 (xT 4)) (sS 8 (xL 0) sEnd)))
 (kSeq (kRegC (fun k => (sV (oLenS (xT 0)) (sV (oBin .eql .no (xL 0) (ki 0)) k))) (xL 0) (kSeq (kReg (sS 2 (xK (str [])) sEnd))
 kRet)
 kSkip)
 (kSeq (kSeq (kReg (sV (oIdx (xT 0) (ki 0)) (sS 6 (xL 0) sEnd)))
 (kBlock 1 (kSeq (kRegC (fun k => (sV (oBin .eql .no (xT 6) (xK (int .u8 (.ofNat 32)))) (sS 7 (xL 0) k))) (xT 7) kSkip
 (kRegC (fun k => (sV (oBin .eql .no (xT 6) (xK (int .u8 (.ofNat 45)))) (sS 7 (xL 0) k))) (xT 7) kSkip
 (kRegC (fun k => (sV (oBin .eql .no (xT 6) (xK (int .u8 (.ofNat 48)))) (sS 7 (xL 0) k))) (xT 7) kSkip
 (kRegC (fun k => (sV (oBin .eql .no (xT 6) (xK (int .u8 (.ofNat 61)))) (sS 7 (xL 0) k))) (xT 7) kSkip
 (kReg (sV (oBin .eql .no (xT 6) (xK (int .u8 (.ofNat 9)))) (sS 7 (xL 0) sEnd)))))))
 (kCond (xT 7) (kBlock 2 (kRegC (fun k => (sV (oBin .leq .no (xT 8) (ki 128)) (sG (xL 0) true (sV (oMov (xT 0))) (sG (xL 1) true (sC (cFn 251) [(xK (str [32, 32, 32, 32, 32, 32, 32, 32, 32, 32, 32, 32, 32, 32, 32, 32, 32, 32, 32, 32, 32, 32, 32, 32, 32, 32, 32, 32, 32, 32, 32, 32, 32, 32, 32, 32, 32, 32, 32, 32, 32, 32, 32, 32, 32, 32, 32, 32, 32, 32, 32, 32, 32, 32, 32, 32, 32, 32, 32, 32, 32, 32, 32, 32, 32, 32, 32, 32, 32, 32, 32, 32, 32, 32, 32, 32, 32, 32, 32, 32, 32, 32, 32, 32, 32, 32, 32, 32, 32, 32, 32, 32, 32, 32, 32, 32, 32, 32, 32, 32, 32, 32, 32, 32, 32, 32, 32, 32, 32, 32, 32, 32, 32, 32, 32, 32, 32, 32, 32, 32, 32, 32, 32, 32, 32, 32, 32, 32])), (xL 0)]) (sV (oPick (xL 2) (xL 0) (xK (bool false))) k))))) (xL 0) (kSeq (kReg (sV (oSlcs (xK (str [32, 32, 32, 32, 32, 32, 32, 32, 32, 32, 32, 32, 32, 32, 32, 32, 32, 32, 32, 32, 32, 32, 32, 32, 32, 32, 32, 32, 32, 32, 32, 32, 32, 32, 32, 32, 32, 32, 32, 32, 32, 32, 32, 32, 32, 32, 32, 32, 32, 32, 32, 32, 32, 32, 32, 32, 32, 32, 32, 32, 32, 32, 32, 32, 32, 32, 32, 32, 32, 32, 32, 32, 32, 32, 32, 32, 32, 32, 32, 32, 32, 32, 32, 32, 32, 32, 32, 32, 32, 32, 32, 32, 32, 32, 32, 32, 32, 32, 32, 32, 32, 32, 32, 32, 32, 32, 32, 32, 32, 32, 32, 32, 32, 32, 32, 32, 32, 32, 32, 32, 32, 32, 32, 32, 32, 32, 32, 32])) none (some (xT 8))) (sS 2 (xL 0) sEnd)))
 kRet)
 (kRegC (fun k => (sV (oBin .leq .no (xT 8) (ki 128)) (sG (xL 0) true (sV (oMov (xT 0))) (sG (xL 1) true (sC (cFn 251) [(xK (str [45, 45, 45, 45, 45, 45, 45, 45, 45, 45, 45, 45, 45, 45, 45, 45, 45, 45, 45, 45, 45, 45, 45, 45, 45, 45, 45, 45, 45, 45, 45, 45, 45, 45, 45, 45, 45, 45, 45, 45, 45, 45, 45, 45, 45, 45, 45, 45, 45, 45, 45, 45, 45, 45, 45, 45, 45, 45, 45, 45, 45, 45, 45, 45, 45, 45, 45, 45, 45, 45, 45, 45, 45, 45, 45, 45, 45, 45, 45, 45, 45, 45, 45, 45, 45, 45, 45, 45, 45, 45, 45, 45, 45, 45, 45, 45, 45, 45, 45, 45, 45, 45, 45, 45, 45, 45, 45, 45, 45, 45, 45, 45, 45, 45, 45, 45, 45, 45, 45, 45, 45, 45, 45, 45, 45, 45, 45, 45])), (xL 0)]) (sV (oPick (xL 2) (xL 0) (xK (bool false))) k))))) (xL 0) (kSeq (kReg (sV (oSlcs (xK (str [45, 45, 45, 45, 45, 45, 45, 45, 45, 45, 45, 45, 45, 45, 45, 45, 45, 45, 45, 45, 45, 45, 45, 45, 45, 45, 45, 45, 45, 45, 45, 45, 45, 45, 45, 45, 45, 45, 45, 45, 45, 45, 45, 45, 45, 45, 45, 45, 45, 45, 45, 45, 45, 45, 45, 45, 45, 45, 45, 45, 45, 45, 45, 45, 45, 45, 45, 45, 45, 45, 45, 45, 45, 45, 45, 45, 45, 45, 45, 45, 45, 45, 45, 45, 45, 45, 45, 45, 45, 45, 45, 45, 45, 45, 45, 45, 45, 45, 45, 45, 45, 45, 45, 45, 45, 45, 45, 45, 45, 45, 45, 45, 45, 45, 45, 45, 45, 45, 45, 45, 45, 45, 45, 45, 45, 45, 45, 45])) none (some (xT 8))) (sS 2 (xL 0) sEnd)))
 kRet)
 (kRegC (fun k => (sV (oBin .leq .no (xT 8) (ki 64)) (sG (xL 0) true (sV (oMov (xT 0))) (sG (xL 1) true (sC (cFn 251) [(xK (str [48, 48, 48, 48, 48, 48, 48, 48, 48, 48, 48, 48, 48, 48, 48, 48, 48, 48, 48, 48, 48, 48, 48, 48, 48, 48, 48, 48, 48, 48, 48, 48, 48, 48, 48, 48, 48, 48, 48, 48, 48, 48, 48, 48, 48, 48, 48, 48, 48, 48, 48, 48, 48, 48, 48, 48, 48, 48, 48, 48, 48, 48, 48, 48])), (xL 0)]) (sV (oPick (xL 2) (xL 0) (xK (bool false))) k))))) (xL 0) (kSeq (kReg (sV (oSlcs (xK (str [48, 48, 48, 48, 48, 48, 48, 48, 48, 48, 48, 48, 48, 48, 48, 48, 48, 48, 48, 48, 48, 48, 48, 48, 48, 48, 48, 48, 48, 48, 48, 48, 48, 48, 48, 48, 48, 48, 48, 48, 48, 48, 48, 48, 48, 48, 48, 48, 48, 48, 48, 48, 48, 48, 48, 48, 48, 48, 48, 48, 48, 48, 48, 48])) none (some (xT 8))) (sS 2 (xL 0) sEnd)))
 kRet)
 (kRegC (fun k => (sV (oBin .leq .no (xT 8) (ki 128)) (sG (xL 0) true (sV (oMov (xT 0))) (sG (xL 1) true (sC (cFn 251) [(xK (str [61, 61, 61, 61, 61, 61, 61, 61, 61, 61, 61, 61, 61, 61, 61, 61, 61, 61, 61, 61, 61, 61, 61, 61, 61, 61, 61, 61, 61, 61, 61, 61, 61, 61, 61, 61, 61, 61, 61, 61, 61, 61, 61, 61, 61, 61, 61, 61, 61, 61, 61, 61, 61, 61, 61, 61, 61, 61, 61, 61, 61, 61, 61, 61, 61, 61, 61, 61, 61, 61, 61, 61, 61, 61, 61, 61, 61, 61, 61, 61, 61, 61, 61, 61, 61, 61, 61, 61, 61, 61, 61, 61, 61, 61, 61, 61, 61, 61, 61, 61, 61, 61, 61, 61, 61, 61, 61, 61, 61, 61, 61, 61, 61, 61, 61, 61, 61, 61, 61, 61, 61, 61, 61, 61, 61, 61, 61, 61])), (xL 0)]) (sV (oPick (xL 2) (xL 0) (xK (bool false))) k))))) (xL 0) (kSeq (kReg (sV (oSlcs (xK (str [61, 61, 61, 61, 61, 61, 61, 61, 61, 61, 61, 61, 61, 61, 61, 61, 61, 61, 61, 61, 61, 61, 61, 61, 61, 61, 61, 61, 61, 61, 61, 61, 61, 61, 61, 61, 61, 61, 61, 61, 61, 61, 61, 61, 61, 61, 61, 61, 61, 61, 61, 61, 61, 61, 61, 61, 61, 61, 61, 61, 61, 61, 61, 61, 61, 61, 61, 61, 61, 61, 61, 61, 61, 61, 61, 61, 61, 61, 61, 61, 61, 61, 61, 61, 61, 61, 61, 61, 61, 61, 61, 61, 61, 61, 61, 61, 61, 61, 61, 61, 61, 61, 61, 61, 61, 61, 61, 61, 61, 61, 61, 61, 61, 61, 61, 61, 61, 61, 61, 61, 61, 61, 61, 61, 61, 61, 61, 61])) none (some (xT 8))) (sS 2 (xL 0) sEnd)))
 kRet)
 (kRegC (fun k => (sV (oBin .leq .no (xT 8) (ki 64)) (sG (xL 0) true (sV (oMov (xT 0))) (sG (xL 1) true (sC (cFn 251) [(xK (str [9, 9, 9, 9, 9, 9, 9, 9, 9, 9, 9, 9, 9, 9, 9, 9, 9, 9, 9, 9, 9, 9, 9, 9, 9, 9, 9, 9, 9, 9, 9, 9, 9, 9, 9, 9, 9, 9, 9, 9, 9, 9, 9, 9, 9, 9, 9, 9, 9, 9, 9, 9, 9, 9, 9, 9, 9, 9, 9, 9, 9, 9, 9, 9])), (xL 0)]) (sV (oPick (xL 2) (xL 0) (xK (bool false))) k))))) (xL 0) (kSeq (kReg (sV (oSlcs (xK (str [9, 9, 9, 9, 9, 9, 9, 9, 9, 9, 9, 9, 9, 9, 9, 9, 9, 9, 9, 9, 9, 9, 9, 9, 9, 9, 9, 9, 9, 9, 9, 9, 9, 9, 9, 9, 9, 9, 9, 9, 9, 9, 9, 9, 9, 9, 9, 9, 9, 9, 9, 9, 9, 9, 9, 9, 9, 9, 9, 9, 9, 9, 9, 9])) none (some (xT 8))) (sS 2 (xL 0) sEnd)))
 kRet)
 kSkip))))))
 kSkip))))
 (kSeq (kReg (sS 9 (xT 8) sEnd))
 (kSeq (kRegC (fun k => (sV (oBin .gtr .no (xT 8) (ki 8192)) k)) (xL 0) (kSeq (kReg (sV (oLenS (xT 0)) (sV (oBin .quo .no (ki 8192) (xL 0)) (sV (oLenS (xT 0)) (sV (oBin .mul .no (xL 1) (xL 0)) (sS 9 (xL 0) sEnd))))))
 (kRegC (fun k => (sV (oBin .eql .no (xT 9) (ki 0)) k)) (xL 0) (kReg (sV (oLenS (xT 0)) (sS 9 (xL 0) sEnd)))
 kSkip))
 kSkip)
 (kSeq (kReg (sH (oAlloc 387 2 [nilptr, nils]) (sS 10 (xL 0) sEnd)))
 (kSeq (kReg (sC (cFn 252) [(xT 10), (xT 8)] sEnd))
 (kSeq (kReg (sC (cFn 253) [(xT 10), (xT 0)] sEnd))
 (kSeq (kBlock 3 (kLoop (kSeq (kRegC (fun k => (sC (cFn 254) [(xT 10)] (sV (oBin .lss .no (xL 0) (xT 8)) k))) (xL 0) kSkip
 (kExit 3))
 (kBlock 4 (kSeq (kReg (sC (cFn 254) [(xT 10)] (sV (oBin .sub .no (xT 8) (xL 0)) (sC (cFn 254) [(xT 10)] (sV (oMm false (xL 1) [(xL 0), (xT 9)]) (sS 11 (xL 0) sEnd))))))
 (kReg (sC (cFn 255) [(xT 10)] (sV (oSlcs (xL 0) none (some (xT 11))) (sC (cFn 253) [(xT 10), (xL 0)] sEnd)))))))))
 (kSeq (kReg (sC (cFn 255) [(xT 10)] (sS 2 (xL 0) sEnd)))
 kRet)))))))))))))))
theorem t217 : FF d217 Tryz.f217 a217 [(.t 2)] := ff Tryz.func217 (by kernel_rfl)
def x217 : XFn := .go a217 2 pd10 [(.t 2)]
def d218 : FD := ⟨218, 3, [6, 7, 8]⟩
def a218 : CodeF := (kSeq (kReg (sS 3 (ki 0) (sS 4 (xK nilif) sEnd)))
 (kSeq (kReg (sC (cFn 256) [(xT 0), (xT 1), (xT 2)] (sV (oExt 0 (xL 0)) (sV (oExt 1 (xL 1)) (sS 5 (xL 1) (sS 4 (xL 0) sEnd))))))
 (kSeq (kRegC (fun k => (sV (oBin .neq (.iface true) (xT 4) (xK nilif)) k)) (xL 0) (kSeq (kReg (sV (oMov (xT 4)) (sC (cFn 257) [(xK (str [80, 97, 114, 115, 101, 73, 110, 116])), (xT 0), (xT 1), (xT 2), (xL 0)] (sS 3 (xT 5) (sS 4 (xL 0) sEnd)))))
 kRet)
 kSkip)
 (kSeq (kReg (sS 3 (xT 5) (sS 4 (xK nilif) sEnd)))
 kRet))))
theorem t218 : FF d218 Tryz.f218 a218 [(.t 3), (.t 4)] := ff Tryz.func218 (by kernel_rfl)
def x218 : XFn := .go a218 3 pd3 [(.t 3), (.t 4)]
def d219 : FD := ⟨219, 4, [10, 8, 12, 11, 9, 87, 13, 15, 14, 17, 16, 18]⟩
def a219 : CodeF := (kSeq (kReg (sS 5 (xK (bool true)) sEnd))
 (kSeq (kReg (sS 8 (xK (bool true)) sEnd))
 (kBlock 0 (kLoop (kBlock 1 (kSeq (kReg (sV (oBin .sub .no (xT 2) (xT 1)) (sS 4 (xL 0) sEnd)))
 (kSeq (kRegC (fun k => (sV (oBin .leq .no (xT 4) (ki 12)) k)) (xL 0) (kSeq (kReg (sC (cFn 258) [(xT 0), (xT 1), (xT 2)] sEnd))
 kRet)
 kSkip)
 (kSeq (kRegC (fun k => (sV (oBin .eql .no (xT 3) (ki 0)) k)) (xL 0) (kSeq (kReg (sC (cFn 259) [(xT 0), (xT 1), (xT 2)] sEnd))
 kRet)
 kSkip)
 (kSeq (kRegC (fun k => (sV (oUn .not (xT 5)) k)) (xL 0) (kSeq (kReg (sC (cFn 260) [(xT 0), (xT 1), (xT 2)] sEnd))
 (kReg (sV (oMov (xT 3)) (sV (oBin .sub .no (xL 0) (ki 1)) (sS 3 (xL 0) sEnd)))))
 kSkip)
 (kSeq (kReg (sC (cFn 261) [(xT 0), (xT 1), (xT 2)] (sV (oExt 0 (xL 0)) (sV (oExt 1 (xL 1)) (sS 7 (xL 1) (sS 6 (xL 0) sEnd))))))
 (kSeq (kRegC (fun k => (sV (oBin .eql .no (xT 6) (ki 2)) k)) (xL 0) (kSeq (kReg (sC (cFn 262) [(xT 0), (xT 1), (xT 2)] sEnd))
 (kSeq (kReg (sV (oBin .sub .no (xT 2) (ki 1)) (sV (oMov (xT 7)) (sV (oBin .sub .no (xL 0) (xT 1)) (sV (oBin .sub .no (xL 2) (xL 0)) (sS 7 (xL 0) sEnd))))))
 (kReg (sS 6 (ki 1) sEnd))))
 kSkip)
 (kSeq (kRegC (fun k => (sG (xT 5) true (sV (oMov (xT 8))) (sV (oPick (xT 5) (xL 0) (xK (bool false))) (sG (xL 0) true (sV (oMov (xT 6))) (sG (xL 1) true (sV (oBin .eql .no (xL 0) (ki 1))) (sV (oPick (xL 2) (xL 0) (xK (bool false))) k)))))) (xL 0) (kRegC (fun k => (sC (cFn 263) [(xT 0), (xT 1), (xT 2)] k)) (xL 0) kRet
 kSkip)
 kSkip)
 (kSeq (kSeq (kDraw [(.v (oMov (xT 1)), none), (.v (oBin .gtr .no (xL 0) (ki 0)), none), (.v (oMov (xL 0)), none), (.v (oMov (xT 0)), (some ((xL 0), true))), (.v (oMov (xT 1)), (some ((xL 1), true))), (.v (oBin .sub .no (xL 0) (ki 1)), (some ((xL 2), true))), (.v (oIaddr 1 (xL 2) (xL 0)), (some ((xL 3), true))), (.v (oLoad (xL 0)), (some ((xL 4), true))), (.v (oMov (xT 0)), (some ((xL 5), true))), (.v (oMov (xT 7)), (some ((xL 6), true))), (.v (oIaddr 1 (xL 1) (xL 0)), (some ((xL 7), true))), (.v (oLoad (xL 0)), (some ((xL 8), true))), (.c (cFn 232) [(xL 4), (xL 0)], (some ((xL 9), true))), (.v (oUn .not (xL 0)), (some ((xL 10), true))), (.v (oPick (xL 11) (xL 0) (xK (bool false))), none)] 0 [none, none, none, none, none, none, none, none, none, (some 0), none, none, none, none, none, none] [])
 (kCond (xT 9) (kSeq (kReg (sC (cFn 264) [(xT 0), (xT 1), (xT 2), (xT 7)] (sS 10 (xL 0) sEnd)))
 (kSeq (kReg (sS 1 (xT 10) sEnd))
 (kExit 1)))
 kSkip))
 (kSeq (kReg (sC (cFn 265) [(xT 0), (xT 1), (xT 2), (xT 7)] (sV (oExt 0 (xL 0)) (sV (oExt 1 (xL 1)) (sS 12 (xL 1) (sS 11 (xL 0) sEnd))))))
 (kSeq (kReg (sS 8 (xT 11) sEnd))
 (kSeq (kReg (sV (oBin .sub .no (xT 12) (xT 1)) (sV (oBin .sub .no (xT 2) (xT 12)) (sS 14 (xL 1) (sS 13 (xL 0) sEnd)))))
 (kSeq (kReg (sV (oBin .quo .no (xT 4) (ki 8)) (sS 15 (xL 0) sEnd)))
 (kRegC (fun k => (sV (oBin .lss .no (xT 14) (xT 13)) k)) (xL 0) (kSeq (kReg (sV (oBin .geq .no (xT 14) (xT 15)) (sS 5 (xL 0) sEnd)))
 (kSeq (kReg (sC (cFn 219) [(xT 0), (xT 1), (xT 12), (xT 3)] sEnd))
 (kReg (sV (oBin .add .no (xT 12) (ki 1)) (sS 1 (xL 0) sEnd)))))
 (kSeq (kReg (sV (oBin .geq .no (xT 13) (xT 15)) (sS 5 (xL 0) sEnd)))
 (kSeq (kReg (sV (oBin .add .no (xT 12) (ki 1)) (sC (cFn 219) [(xT 0), (xL 0), (xT 2), (xT 3)] sEnd)))
 (kReg (sS 2 (xT 12) sEnd))))))))))))))))))))))
theorem t219 : FF d219 Tryz.f219 a219 [] := ff Tryz.func219 (by kernel_rfl)
def x219 : XFn := .go a219 4 pd12 []
def d220 : FD := ⟨220, 1, [2]⟩
def a220 : CodeF := (kSeq (kReg (sS 1 (ki 0) sEnd))
 (kSeq (kCond (xK (bool false)) (kSeq (kReg (sV (oConv .u32 (xT 0)) (sC (cFn 266) [(xL 0)] (sS 1 (xL 0) sEnd))))
 kRet)
 kSkip)
 (kSeq (kReg (sC (cFn 182) [(xT 0)] (sS 1 (xL 0) sEnd)))
 kRet)))
theorem t220 : FF d220 Tryz.f220 a220 [(.t 1)] := ff Tryz.func220 (by kernel_rfl)
def x220 : XFn := .go a220 1 pd1 [(.t 1)]
def d221 : FD := ⟨221, 4, [10, 8, 12, 11, 9, 87, 13, 15, 14, 17, 16, 18]⟩
def a221 : CodeF := (kSeq (kReg (sS 5 (xK (bool true)) sEnd))
 (kSeq (kReg (sS 8 (xK (bool true)) sEnd))
 (kBlock 0 (kLoop (kBlock 1 (kSeq (kReg (sV (oBin .sub .no (xT 2) (xT 1)) (sS 4 (xL 0) sEnd)))
 (kSeq (kRegC (fun k => (sV (oBin .leq .no (xT 4) (ki 12)) k)) (xL 0) (kSeq (kReg (sC (cFn 267) [(xT 0), (xT 1), (xT 2)] sEnd))
 kRet)
 kSkip)
 (kSeq (kRegC (fun k => (sV (oBin .eql .no (xT 3) (ki 0)) k)) (xL 0) (kSeq (kReg (sC (cFn 268) [(xT 0), (xT 1), (xT 2)] sEnd))
 kRet)
 kSkip)
 (kSeq (kRegC (fun k => (sV (oUn .not (xT 5)) k)) (xL 0) (kSeq (kReg (sC (cFn 269) [(xT 0), (xT 1), (xT 2)] sEnd))
 (kReg (sV (oMov (xT 3)) (sV (oBin .sub .no (xL 0) (ki 1)) (sS 3 (xL 0) sEnd)))))
 kSkip)
 (kSeq (kReg (sC (cFn 270) [(xT 0), (xT 1), (xT 2)] (sV (oExt 0 (xL 0)) (sV (oExt 1 (xL 1)) (sS 7 (xL 1) (sS 6 (xL 0) sEnd))))))
 (kSeq (kRegC (fun k => (sV (oBin .eql .no (xT 6) (ki 2)) k)) (xL 0) (kSeq (kReg (sC (cFn 271) [(xT 0), (xT 1), (xT 2)] sEnd))
 (kSeq (kReg (sV (oBin .sub .no (xT 2) (ki 1)) (sV (oMov (xT 7)) (sV (oBin .sub .no (xL 0) (xT 1)) (sV (oBin .sub .no (xL 2) (xL 0)) (sS 7 (xL 0) sEnd))))))
 (kReg (sS 6 (ki 1) sEnd))))
 kSkip)
 (kSeq (kRegC (fun k => (sG (xT 5) true (sV (oMov (xT 8))) (sV (oPick (xT 5) (xL 0) (xK (bool false))) (sG (xL 0) true (sV (oMov (xT 6))) (sG (xL 1) true (sV (oBin .eql .no (xL 0) (ki 1))) (sV (oPick (xL 2) (xL 0) (xK (bool false))) k)))))) (xL 0) (kRegC (fun k => (sC (cFn 272) [(xT 0), (xT 1), (xT 2)] k)) (xL 0) kRet
 kSkip)
 kSkip)
 (kSeq (kSeq (kDraw [(.v (oMov (xT 1)), none), (.v (oBin .gtr .no (xL 0) (ki 0)), none), (.v (oMov (xL 0)), none), (.v (oMov (xT 0)), (some ((xL 0), true))), (.v (oMov (xT 1)), (some ((xL 1), true))), (.v (oBin .sub .no (xL 0) (ki 1)), (some ((xL 2), true))), (.v (oIaddr 1 (xL 2) (xL 0)), (some ((xL 3), true))), (.v (oLoad (xL 0)), (some ((xL 4), true))), (.v (oMov (xT 0)), (some ((xL 5), true))), (.v (oMov (xT 7)), (some ((xL 6), true))), (.v (oIaddr 1 (xL 1) (xL 0)), (some ((xL 7), true))), (.v (oLoad (xL 0)), (some ((xL 8), true))), (.c (cFn 273) [(xL 4), (xL 0)], (some ((xL 9), true))), (.v (oUn .not (xL 0)), (some ((xL 10), true))), (.v (oPick (xL 11) (xL 0) (xK (bool false))), none)] 0 [none, none, none, none, none, none, none, none, none, (some 0), none, none, none, none, none, none] [])
 (kCond (xT 9) (kSeq (kReg (sC (cFn 274) [(xT 0), (xT 1), (xT 2), (xT 7)] (sS 10 (xL 0) sEnd)))
 (kSeq (kReg (sS 1 (xT 10) sEnd))
 (kExit 1)))
 kSkip))
 (kSeq (kReg (sC (cFn 275) [(xT 0), (xT 1), (xT 2), (xT 7)] (sV (oExt 0 (xL 0)) (sV (oExt 1 (xL 1)) (sS 12 (xL 1) (sS 11 (xL 0) sEnd))))))
 (kSeq (kReg (sS 8 (xT 11) sEnd))
 (kSeq (kReg (sV (oBin .sub .no (xT 12) (xT 1)) (sV (oBin .sub .no (xT 2) (xT 12)) (sS 14 (xL 1) (sS 13 (xL 0) sEnd)))))
 (kSeq (kReg (sV (oBin .quo .no (xT 4) (ki 8)) (sS 15 (xL 0) sEnd)))
 (kRegC (fun k => (sV (oBin .lss .no (xT 14) (xT 13)) k)) (xL 0) (kSeq (kReg (sV (oBin .geq .no (xT 14) (xT 15)) (sS 5 (xL 0) sEnd)))
 (kSeq (kReg (sC (cFn 221) [(xT 0), (xT 1), (xT 12), (xT 3)] sEnd))
 (kReg (sV (oBin .add .no (xT 12) (ki 1)) (sS 1 (xL 0) sEnd)))))
 (kSeq (kReg (sV (oBin .geq .no (xT 13) (xT 15)) (sS 5 (xL 0) sEnd)))
 (kSeq (kReg (sV (oBin .add .no (xT 12) (ki 1)) (sC (cFn 221) [(xT 0), (xL 0), (xT 2), (xT 3)] sEnd)))
 (kReg (sS 2 (xT 12) sEnd))))))))))))))))))))))
theorem t221 : FF d221 Tryz.f221 a221 [] := ff Tryz.func221 (by kernel_rfl)
def x221 : XFn := .go a221 4 pd12 []
def d222 : FD := ⟨222, 2, [4, 6, 7, 2, 5]⟩
def a222 : CodeF := (kSeq (kReg (sH (oBox 39 1 (xT 0)) (sS 5 (xL 0) (sS 2 (xK nils) sEnd))))
 (kSeq (kSeq (kReg (sS 3 (xT 1) sEnd))
 (kBlock 0 (kRf 16780778 [4] (xT 3))))
 (kSeq (kReg (sV (oLoad (xT 5)) (sS 2 (xL 0) sEnd)))
 kRet)))
theorem t222 : FF d222 Tryz.f222 a222 [(.t 2)] := ff Tryz.func222 (by kernel_rfl)
def x222 : XFn := .go a222 2 pd5 [(.t 2)]
def r222x0 : CodeF × CodeF := ((kReg (sS 6 (xT 4) sEnd)),
 (kBlock 1 (kReg (sV (oLoad (xT 5)) (sH (oBsl 9 1 1 [(str [])] [(0, 1, (xT 6))]) (sH (oApp 9 1 (xL 1) (xL 0)) (sH (oStore 1 (xT 5) (xL 0)) sEnd)))))))
theorem u222x0 : RfFact Tryz.prog d222 Tryz.f222 16780778 r222x0 := ⟨Tryz.func222, by kernel_rfl⟩
def d223 : FD := ⟨223, 2, [4, 6, 7, 2, 5]⟩
def a223 : CodeF := (kSeq (kReg (sH (oBox 31 1 (xT 0)) (sS 5 (xL 0) (sS 2 (xK nils) sEnd))))
 (kSeq (kSeq (kReg (sS 3 (xT 1) sEnd))
 (kBlock 0 (kRf 16780794 [4] (xT 3))))
 (kSeq (kReg (sV (oLoad (xT 5)) (sS 2 (xL 0) sEnd)))
 kRet)))
theorem t223 : FF d223 Tryz.f223 a223 [(.t 2)] := ff Tryz.func223 (by kernel_rfl)
def x223 : XFn := .go a223 2 pd5 [(.t 2)]
def r223x0 : CodeF × CodeF := ((kReg (sS 6 (xT 4) sEnd)),
 (kBlock 1 (kReg (sV (oLoad (xT 5)) (sH (oBsl 3 1 1 [(int .i64 (.ofNat 0))] [(0, 1, (xT 6))]) (sH (oApp 3 1 (xL 1) (xL 0)) (sH (oStore 1 (xT 5) (xL 0)) sEnd)))))))
theorem u223x0 : RfFact Tryz.prog d223 Tryz.f223 16780794 r223x0 := ⟨Tryz.func223, by kernel_rfl⟩
def d224 : FD := ⟨224, 4, [10, 8, 12, 11, 9, 87, 13, 15, 14, 17, 16, 18]⟩
def a224 : CodeF := (kSeq (kReg (sS 5 (xK (bool true)) sEnd))
 (kSeq (kReg (sS 8 (xK (bool true)) sEnd))
 (kBlock 0 (kLoop (kBlock 1 (kSeq (kReg (sV (oBin .sub .no (xT 2) (xT 1)) (sS 4 (xL 0) sEnd)))
 (kSeq (kRegC (fun k => (sV (oBin .leq .no (xT 4) (ki 12)) k)) (xL 0) (kSeq (kReg (sC (cFn 276) [(xT 0), (xT 1), (xT 2)] sEnd))
 kRet)
 kSkip)
 (kSeq (kRegC (fun k => (sV (oBin .eql .no (xT 3) (ki 0)) k)) (xL 0) (kSeq (kReg (sC (cFn 277) [(xT 0), (xT 1), (xT 2)] sEnd))
 kRet)
 kSkip)
 (kSeq (kRegC (fun k => (sV (oUn .not (xT 5)) k)) (xL 0) (kSeq (kReg (sC (cFn 278) [(xT 0), (xT 1), (xT 2)] sEnd))
 (kReg (sV (oMov (xT 3)) (sV (oBin .sub .no (xL 0) (ki 1)) (sS 3 (xL 0) sEnd)))))
 kSkip)
 (kSeq (kReg (sC (cFn 279) [(xT 0), (xT 1), (xT 2)] (sV (oExt 0 (xL 0)) (sV (oExt 1 (xL 1)) (sS 7 (xL 1) (sS 6 (xL 0) sEnd))))))
 (kSeq (kRegC (fun k => (sV (oBin .eql .no (xT 6) (ki 2)) k)) (xL 0) (kSeq (kReg (sC (cFn 280) [(xT 0), (xT 1), (xT 2)] sEnd))
 (kSeq (kReg (sV (oBin .sub .no (xT 2) (ki 1)) (sV (oMov (xT 7)) (sV (oBin .sub .no (xL 0) (xT 1)) (sV (oBin .sub .no (xL 2) (xL 0)) (sS 7 (xL 0) sEnd))))))
 (kReg (sS 6 (ki 1) sEnd))))
 kSkip)
 (kSeq (kRegC (fun k => (sG (xT 5) true (sV (oMov (xT 8))) (sV (oPick (xT 5) (xL 0) (xK (bool false))) (sG (xL 0) true (sV (oMov (xT 6))) (sG (xL 1) true (sV (oBin .eql .no (xL 0) (ki 1))) (sV (oPick (xL 2) (xL 0) (xK (bool false))) k)))))) (xL 0) (kRegC (fun k => (sC (cFn 281) [(xT 0), (xT 1), (xT 2)] k)) (xL 0) kRet
 kSkip)
 kSkip)
 (kSeq (kSeq (kDraw [(.v (oMov (xT 1)), none), (.v (oBin .gtr .no (xL 0) (ki 0)), none), (.v (oMov (xL 0)), none), (.v (oMov (xT 0)), (some ((xL 0), true))), (.v (oMov (xT 1)), (some ((xL 1), true))), (.v (oBin .sub .no (xL 0) (ki 1)), (some ((xL 2), true))), (.v (oIaddr 1 (xL 2) (xL 0)), (some ((xL 3), true))), (.v (oLoad (xL 0)), (some ((xL 4), true))), (.v (oMov (xT 0)), (some ((xL 5), true))), (.v (oMov (xT 7)), (some ((xL 6), true))), (.v (oIaddr 1 (xL 1) (xL 0)), (some ((xL 7), true))), (.v (oLoad (xL 0)), (some ((xL 8), true))), (.c (cFn 282) [(xL 4), (xL 0)], (some ((xL 9), true))), (.v (oUn .not (xL 0)), (some ((xL 10), true))), (.v (oPick (xL 11) (xL 0) (xK (bool false))), none)] 0 [none, none, none, none, none, none, none, none, none, (some 0), none, none, none, none, none, none] [])
 (kCond (xT 9) (kSeq (kReg (sC (cFn 283) [(xT 0), (xT 1), (xT 2), (xT 7)] (sS 10 (xL 0) sEnd)))
 (kSeq (kReg (sS 1 (xT 10) sEnd))
 (kExit 1)))
 kSkip))
 (kSeq (kReg (sC (cFn 284) [(xT 0), (xT 1), (xT 2), (xT 7)] (sV (oExt 0 (xL 0)) (sV (oExt 1 (xL 1)) (sS 12 (xL 1) (sS 11 (xL 0) sEnd))))))
 (kSeq (kReg (sS 8 (xT 11) sEnd))
 (kSeq (kReg (sV (oBin .sub .no (xT 12) (xT 1)) (sV (oBin .sub .no (xT 2) (xT 12)) (sS 14 (xL 1) (sS 13 (xL 0) sEnd)))))
 (kSeq (kReg (sV (oBin .quo .no (xT 4) (ki 8)) (sS 15 (xL 0) sEnd)))
 (kRegC (fun k => (sV (oBin .lss .no (xT 14) (xT 13)) k)) (xL 0) (kSeq (kReg (sV (oBin .geq .no (xT 14) (xT 15)) (sS 5 (xL 0) sEnd)))
 (kSeq (kReg (sC (cFn 224) [(xT 0), (xT 1), (xT 12), (xT 3)] sEnd))
 (kReg (sV (oBin .add .no (xT 12) (ki 1)) (sS 1 (xL 0) sEnd)))))
 (kSeq (kReg (sV (oBin .geq .no (xT 13) (xT 15)) (sS 5 (xL 0) sEnd)))
 (kSeq (kReg (sV (oBin .add .no (xT 12) (ki 1)) (sC (cFn 224) [(xT 0), (xL 0), (xT 2), (xT 3)] sEnd)))
 (kReg (sS 2 (xT 12) sEnd))))))))))))))))))))))
theorem t224 : FF d224 Tryz.f224 a224 [] := ff Tryz.func224 (by kernel_rfl)
def x224 : XFn := .go a224 4 pd12 []
def d225 : FD := ⟨225, 1, [2, 3, 4]⟩
def a225 : CodeF := (kSeq (kReg (sS 1 (xK (int .u32 (.ofNat 0))) sEnd))
 (kSeq (kSeq (kReg (sS 2 (ki 0) sEnd))
 (kBlock 0 (kLoop (kSeq (kReg (sV (oBin .lss .no (xT 2) (ki 4)) (sS 3 (xL 0) sEnd)))
 (kSeq (kCond (xT 3) kSkip
 (kExit 0))
 (kSeq (kBlock 1 (kReg (sV (oMov (xT 0)) (sV (oBin .shr .no (xL 0) (xK (int .u64 (.ofNat 1)))) (sV (oMov (xT 0)) (sV (oBin .and .no (xL 0) (xK (int .u32 (.ofNat 1)))) (sV (oBin .mul .no (xK (int .u32 (.ofNat 3988292384))) (xL 0)) (sV (oBin .xor .no (xL 3) (xL 0)) (sS 0 (xL 0) sEnd)))))))))
 (kReg (sV (oBin .add .no (xT 2) (ki 1)) (sS 2 (xL 0) sEnd)))))))))
 (kSeq (kReg (sS 1 (xT 0) sEnd))
 kRet)))
theorem t225 : FF d225 Tryz.f225 a225 [(.t 1)] := ff Tryz.func225 (by kernel_rfl)
def x225 : XFn := .go a225 1 pd3 [(.t 1)]
def d226 : FD := ⟨226, 1, [2, 8, 9, 10, 7, 6, 4, 3]⟩
def a226 : CodeF := (kSeq (kReg (sS 1 (xK (bool false)) sEnd))
 (kSeq (kReg (sS 8 (xK (int .i64 (.negSucc 0))) (sS 7 (ki 0) sEnd)))
 (kSeq (kSeq (kReg (sS 5 (xT 0) (sV (oLenL (xT 5)) (sS 2 (xL 0) (sS 3 (ki 0) sEnd)))))
 (kBlock 0 (kLoop (kSeq (kReg (sV (oBin .lss .no (xT 3) (xT 2)) (sS 4 (xL 0) sEnd)))
 (kSeq (kCond (xT 4) kSkip
 (kExit 0))
 (kSeq (kBlock 1 (kSeq (kReg (sV (oIaddr 2 (xT 5) (xT 3)) (sV (oLoadN 2 (xL 0)) (sH (oAlloc 107 2 [(int .i64 (.ofNat 0)), nils]) (sS 6 (xL 0) (sH (oStore 2 (xT 6) (xL 1)) sEnd))))))
 (kSeq (kReg (sV (oMov (xT 7)) (sV (oFaddr 1 (xT 6)) (sV (oLoad (xL 0)) (sV (oLenL (xL 0)) (sV (oBin .add .no (xL 3) (xL 0)) (sS 7 (xL 0) sEnd)))))))
 (kSeq (kRegC (fun k => (sV (oFaddr 0 (xT 6)) (sV (oLoad (xL 0)) (sV (oBin .leq .no (xL 0) (xT 8)) (sG (xL 0) false (sV (oFaddr 0 (xT 6))) (sG (xL 1) false (sV (oLoad (xL 0))) (sG (xL 2) false (sV (oBin .geq .no (xL 0) (ki 16384))) (sV (oPick (xL 3) (xK (bool true)) (xL 0)) (sG (xL 0) false (sV (oFaddr 1 (xT 6))) (sG (xL 1) false (sV (oLoad (xL 0))) (sG (xL 2) false (sV (oLenL (xL 0))) (sG (xL 3) false (sV (oBin .eql .no (xL 0) (ki 0))) (sV (oPick (xL 4) (xK (bool true)) (xL 0)) (sG (xL 0) false (sV (oMov (xT 7))) (sG (xL 1) false (sV (oBin .gtr .no (xL 0) (ki 1048576))) (sV (oPick (xL 2) (xK (bool true)) (xL 0)) (sG (xL 0) false (sV (oFaddr 1 (xT 6))) (sG (xL 1) false (sV (oLoad (xL 0))) (sG (xL 2) false (sC (cFn 285) [(xL 0)]) (sG (xL 3) false (sV (oUn .not (xL 0))) (sV (oPick (xL 4) (xK (bool true)) (xL 0)) (sG (xL 0) false (sV (oFaddr 1 (xT 6))) (sG (xL 1) false (sV (oLoad (xL 0))) (sG (xL 2) false (sV (oIaddr 1 (xL 0) (ki 0))) (sG (xL 3) false (sV (oLoad (xL 0))) (sG (xL 4) false (sV (oBin .lss .no (xL 0) (ki 0))) (sV (oPick (xL 5) (xK (bool true)) (xL 0)) (sG (xL 0) false (sV (oFaddr 1 (xT 6))) (sG (xL 1) false (sV (oLoad (xL 0))) (sG (xL 2) false (sV (oFaddr 1 (xT 6))) (sG (xL 3) false (sV (oLoad (xL 0))) (sG (xL 4) false (sV (oLenL (xL 0))) (sG (xL 5) false (sV (oBin .sub .no (xL 0) (ki 1))) (sG (xL 6) false (sV (oIaddr 1 (xL 4) (xL 0))) (sG (xL 7) false (sV (oLoad (xL 0))) (sG (xL 8) false (sV (oBin .gtr .no (xL 0) (ki 1048576))) (sV (oPick (xL 9) (xK (bool true)) (xL 0)) k))))))))))))))))))))))))))))))))))))) (xL 0) (kSeq (kReg (sS 1 (xK (bool false)) sEnd))
 kRet)
 kSkip)
 (kReg (sV (oFaddr 0 (xT 6)) (sV (oLoad (xL 0)) (sS 8 (xL 0) sEnd))))))))
 (kReg (sV (oBin .add .no (xT 3) (ki 1)) (sS 3 (xL 0) sEnd)))))))))
 (kSeq (kReg (sS 1 (xK (bool true)) sEnd))
 kRet))))
theorem t226 : FF d226 Tryz.f226 a226 [(.t 1)] := ff Tryz.func226 (by kernel_rfl)
def x226 : XFn := .go a226 1 pd8 [(.t 1)]
def d227 : FD := ⟨227, 2, [4, 3, 2]⟩
def a227 : CodeF := (kSeq (kReg (sH (oBox 101 1 (xT 0)) (sS 4 (xL 0) (sH (oBox 3 1 (xT 1)) (sS 3 (xL 0) (sS 2 (xK nilfunc) sEnd))))))
 (kSeq (kRegC (fun k => (sV (oLoad (xT 3)) (sV (oBin .lss .no (xL 0) (ki 1)) k))) (xL 0) (kReg (sV (oMkif 9 (xK (str [99, 97, 110, 110, 111, 116, 32, 98, 101, 32, 108, 101, 115, 115, 32, 116, 104, 97, 110, 32, 49]))) (sPan (xL 0))))
 kSkip)
 (kSeq (kReg (sV (oMkfn 286 [] [(xT 4), (xT 3)]) (sS 2 (xL 0) sEnd)))
 kRet)))
theorem t227 : FF d227 Tryz.f227 a227 [(.t 2)] := ff Tryz.func227 (by kernel_rfl)
def x227 : XFn := .go a227 2 pd3 [(.t 2)]
def d228 : FD := ⟨228, 2, [4, 14, 15, 16, 13, 9, 5, 6, 38, 39, 40, 37, 10, 12, 7]⟩
def a228 : CodeF := (kSeq (kReg (sS 2 (xK nils) sEnd))
 (kSeq (kReg (sS 8 (xK nils) (sS 9 (xK nils) (sS 16 (xK nils) sEnd))))
 (kSeq (kSeq (kReg (sS 6 (xT 0) (sV (oLenL (xT 6)) (sS 3 (xL 0) (sS 4 (ki 0) sEnd)))))
 (kBlock 0 (kLoop (kSeq (kReg (sV (oBin .lss .no (xT 4) (xT 3)) (sS 5 (xL 0) sEnd)))
 (kSeq (kCond (xT 5) kSkip
 (kExit 0))
 (kSeq (kBlock 1 (kSeq (kReg (sV (oIaddr 2 (xT 6) (xT 4)) (sV (oLoadN 2 (xL 0)) (sH (oAlloc 107 2 [(int .i64 (.ofNat 0)), nils]) (sS 7 (xL 0) (sH (oStore 2 (xT 7) (xL 1)) sEnd))))))
 (kSeq (kReg (sV (oMov (xT 8)) (sV (oFaddr 0 (xT 7)) (sV (oLoad (xL 0)) (sV (oBin .sub .no (xL 0) (xT 1)) (sV (oBin .sub .no (xL 0) (ki 1)) (sH (oBsl 2 1 1 [(int .i64 (.ofNat 0))] [(0, 1, (xL 0))]) (sH (oApp 2 1 (xL 5) (xL 0)) (sS 8 (xL 0) sEnd)))))))))
 (kSeq (kReg (sV (oFaddr 0 (xT 7)) (sV (oLoad (xL 0)) (sS 1 (xL 0) sEnd))))
 (kSeq (kReg (sV (oMov (xT 9)) (sV (oFaddr 1 (xT 7)) (sV (oLoad (xL 0)) (sV (oLenL (xL 0)) (sV (oBin .sub .no (xL 0) (ki 1)) (sH (oBsl 2 1 1 [(int .i64 (.ofNat 0))] [(0, 1, (xL 0))]) (sH (oApp 2 1 (xL 5) (xL 0)) (sS 9 (xL 0) sEnd)))))))))
 (kSeq (kReg (sS 14 (ki 0) sEnd))
 (kSeq (kReg (sV (oFaddr 1 (xT 7)) (sV (oLoad (xL 0)) (sS 13 (xL 0) (sV (oLenL (xT 13)) (sS 10 (xL 0) (sS 11 (ki 0) sEnd)))))))
 (kBlock 2 (kLoop (kSeq (kReg (sV (oBin .lss .no (xT 11) (xT 10)) (sS 12 (xL 0) sEnd)))
 (kSeq (kCond (xT 12) kSkip
 (kExit 2))
 (kSeq (kBlock 3 (kSeq (kReg (sV (oIaddr 1 (xT 13) (xT 11)) (sV (oLoad (xL 0)) (sS 15 (xL 0) sEnd))))
 (kSeq (kReg (sV (oMov (xT 16)) (sV (oBin .sub .no (xT 15) (xT 14)) (sH (oBsl 2 1 1 [(int .i64 (.ofNat 0))] [(0, 1, (xL 0))]) (sH (oApp 2 1 (xL 2) (xL 0)) (sS 16 (xL 0) sEnd))))))
 (kReg (sS 14 (xT 15) sEnd)))))
 (kReg (sV (oBin .add .no (xT 11) (ki 1)) (sS 11 (xL 0) sEnd)))))))))))))))
 (kReg (sV (oBin .add .no (xT 4) (ki 1)) (sS 4 (xL 0) sEnd)))))))))
 (kSeq (kReg (sC (cFn 73) [(xT 8)] (sC (cFn 73) [(xT 9)] (sC (cFn 73) [(xT 16)] (sH (oBsl 25 1 3 [nils] [(0, 1, (xL 2)), (1, 1, (xL 1)), (2, 1, (xL 0))]) (sC (cFn 159) [(xL 0)] (sS 2 (xL 0) sEnd)))))))
 kRet))))
theorem t228 : FF d228 Tryz.f228 a228 [(.t 2)] := ff Tryz.func228 (by kernel_rfl)
def x228 : XFn := .go a228 2 pd15 [(.t 2)]
def d229 : FD := ⟨229, 2, [4, 7, 8, 9, 5]⟩
def a229 : CodeF := (kSeq (kReg (sS 2 (ki 0) sEnd))
 (kSeq (kSeq (kReg (sV (oLenL (xT 0)) (sS 3 (xL 0) (sS 4 (ki 0) sEnd))))
 (kBlock 0 (kLoop (kSeq (kReg (sV (oBin .lss .no (xT 4) (xT 3)) (sS 5 (xL 0) sEnd)))
 (kSeq (kCond (xT 5) kSkip
 (kExit 0))
 (kSeq (kBlock 1 (kSeq (kReg (sS 6 (xT 4) sEnd))
 (kRegC (fun k => (sV (oIaddr 1 (xT 0) (xT 6)) (sV (oLoad (xL 0)) (sC (cVal (xT 1)) [(xL 0)] k)))) (xL 0) (kSeq (kReg (sS 2 (xT 6) sEnd))
 kRet)
 kSkip)))
 (kReg (sV (oBin .add .no (xT 4) (ki 1)) (sS 4 (xL 0) sEnd)))))))))
 (kSeq (kReg (sS 2 (xK (int .i64 (.negSucc 0))) sEnd))
 kRet)))
theorem t229 : FF d229 Tryz.f229 a229 [(.t 2)] := ff Tryz.func229 (by kernel_rfl)
def x229 : XFn := .go a229 2 pd5 [(.t 2)]
def d230 : FD := ⟨230, 2, []⟩
def a230 : CodeF := (kReg (sV (oLoad (xT 1)) (sH (oApp 5 1 (xL 0) (xT 0)) (sH (oStore 1 (xT 1) (xL 0)) sEnd))))
theorem t230 : FF d230 Tryz.f230 a230 [] := ff Tryz.func230 (by kernel_rfl)
def x230 : XFn := .go a230 2 pd0 []
def d231 : FD := ⟨231, 1, [2]⟩
def a231 : CodeF := (kSeq (kReg (sS 1 (xK nils) sEnd))
 (kSeq (kRegC (fun k => (sV (oBin .eql .slice (xT 0) (xK nils)) k)) (xL 0) (kSeq (kReg (sS 1 (xK nils) sEnd))
 kRet)
 kSkip)
 (kSeq (kReg (sH (oBsl 9 1 0 [(str [])] []) (sH (oApp 9 1 (xL 0) (xT 0)) (sS 1 (xL 0) sEnd))))
 kRet)))
theorem t231 : FF d231 Tryz.f231 a231 [(.t 1)] := ff Tryz.func231 (by kernel_rfl)
def x231 : XFn := .go a231 1 pd1 [(.t 1)]
def d232 : FD := ⟨232, 2, [4]⟩
def a232 : CodeF := (kSeq (kReg (sS 2 (xK (bool false)) sEnd))
 (kSeq (kReg (sC (cFn 287) [(xT 0)] (sG (xL 0) true (sV (oMov (xT 1))) (sG (xL 1) true (sC (cFn 287) [(xL 0)]) (sG (xL 2) true (sV (oUn .not (xL 0))) (sV (oPick (xL 3) (xL 0) (xK (bool false))) (sG (xL 0) false (sV (oMov (xT 0))) (sG (xL 1) false (sV (oMov (xT 1))) (sG (xL 2) false (sV (oBin .lss .no (xL 1) (xL 0))) (sV (oPick (xL 3) (xK (bool true)) (xL 0)) (sS 2 (xL 0) sEnd)))))))))))
 kRet))
theorem t232 : FF d232 Tryz.f232 a232 [(.t 2)] := ff Tryz.func232 (by kernel_rfl)
def x232 : XFn := .go a232 2 pd1 [(.t 2)]
def d233 : FD := ⟨233, 1, [2]⟩
def a233 : CodeF := (kSeq (kReg (sS 1 (xK (bool false)) sEnd))
 (kSeq (kReg (sV (oBin .neq .no (xT 0) (xT 0)) (sS 1 (xL 0) sEnd)))
 kRet))
theorem t233 : FF d233 Tryz.f233 a233 [(.t 1)] := ff Tryz.func233 (by kernel_rfl)
def x233 : XFn := .go a233 1 pd1 [(.t 1)]
def d234 : FD := ⟨234, 2, [4]⟩
def a234 : CodeF := (kSeq (kReg (sV (oLenL (xT 0)) (sS 2 (xL 0) sEnd)))
 (kReg (sV (oConv .u64 (xT 2)) (sC (cFn 220) [(xL 0)] (sC (cFn 288) [(xT 0), (ki 0), (xT 2), (xL 0), (xT 1)] sEnd)))))
theorem t234 : FF d234 Tryz.f234 a234 [] := ff Tryz.func234 (by kernel_rfl)
def x234 : XFn := .go a234 2 pd1 []
def d235 : FD := ⟨235, 1, [2, 1]⟩
def a235 : CodeF := (kSeq (kReg (sH (oBox 3 1 (xT 0)) (sS 2 (xL 0) (sS 1 (xK nilfunc) sEnd))))
 (kSeq (kReg (sV (oMkfn 289 [] [(xT 2)]) (sS 1 (xL 0) sEnd)))
 kRet))
theorem t235 : FF d235 Tryz.f235 a235 [(.t 1)] := ff Tryz.func235 (by kernel_rfl)
def x235 : XFn := .go a235 1 pd2 [(.t 1)]
def d236 : FD := ⟨236, 2, [4, 13, 14, 15, 7, 32, 33, 34, 31, 11, 9, 8, 6, 12, 5]⟩
def a236 : CodeF := (kSeq (kReg (sS 2 (ki 0) sEnd))
 (kSeq (kReg (sS 16 (ki 0) (sS 14 (xK (int .u64 (.ofNat 0))) sEnd)))
 (kSeq (kSeq (kReg (sS 3 (xT 0) (sS 4 (ki 0) sEnd)))
 (kBlock 0 (kLoop (kSeq (kReg (sV (oBin .lss .no (xT 4) (xT 3)) (sS 5 (xL 0) sEnd)))
 (kSeq (kCond (xT 5) kSkip
 (kExit 0))
 (kSeq (kBlock 1 (kSeq (kReg (sS 6 (xT 4) sEnd))
 (kSeq (kDraw [(.v (oMov (xT 1)), none), (.v (oIaddr 2 (xL 0) (ki 0)), none), (.v (oFaddr 1 (xL 0)), none), (.v (oLoad (xL 0)), none), (.v (oMov (xT 6)), none), (.v (oIaddr 1 (xL 1) (xL 0)), none), (.v (oLoad (xL 0)), none), (.v (oMov (xT 1)), none), (.v (oIaddr 2 (xL 0) (ki 0)), none), (.v (oFaddr 1 (xL 0)), none), (.v (oLoad (xL 0)), none), (.v (oMov (xT 6)), none), (.v (oIaddr 1 (xL 1) (xL 0)), none), (.v (oLoad (xL 0)), none), (.v (oMov (xL 7)), none), (.v (oMov (xL 1)), none)] 0 [none, none, none, none, none, none, none, none, none, none, none, none, (some 0), (some 1), none, none, none] [])
 (kSeq (kSeq (kReg (sS 10 (xT 1) (sV (oLenL (xT 10)) (sS 7 (xL 0) (sS 8 (ki 0) sEnd)))))
 (kBlock 2 (kLoop (kSeq (kReg (sV (oBin .lss .no (xT 8) (xT 7)) (sS 9 (xL 0) sEnd)))
 (kSeq (kCond (xT 9) kSkip
 (kExit 2))
 (kSeq (kBlock 3 (kSeq (kReg (sV (oIaddr 2 (xT 10) (xT 8)) (sV (oLoadN 2 (xL 0)) (sH (oAlloc 222 2 [(int .i64 (.ofNat 0)), nils]) (sS 11 (xL 0) (sH (oStore 2 (xT 11) (xL 1)) sEnd))))))
 (kDraw [(.v (oMov (xT 13)), none), (.v (oFaddr 1 (xT 11)), none), (.v (oLoad (xL 0)), none), (.v (oMov (xT 6)), none), (.v (oIaddr 1 (xL 1) (xL 0)), none), (.v (oLoad (xL 0)), none), (.v (oMm false (xL 5) [(xL 0)]), none), (.v (oMov (xT 12)), none), (.v (oFaddr 1 (xT 11)), none), (.v (oLoad (xL 0)), none), (.v (oMov (xT 6)), none), (.v (oIaddr 1 (xL 1) (xL 0)), none), (.v (oLoad (xL 0)), none), (.v (oMm true (xL 5) [(xL 0)]), none), (.v (oMov (xL 7)), none), (.v (oMov (xL 1)), none)] 0 [none, none, none, none, none, none, none, none, none, none, none, none, (some 0), (some 1), none, none, none] [])))
 (kReg (sV (oBin .add .no (xT 8) (ki 1)) (sS 8 (xL 0) sEnd)))))))))
 (kSeq (kReg (sV (oConv .u64 (xT 12)) (sV (oConv .u64 (xT 13)) (sV (oBin .sub .no (xL 1) (xL 0)) (sS 15 (xL 0) sEnd)))))
 (kRegC (fun k => (sV (oBin .gtr .no (xT 15) (xT 14)) k)) (xL 0) (kReg (sS 16 (xT 6) (sS 14 (xT 15) sEnd)))
 kSkip))))))
 (kReg (sV (oBin .add .no (xT 4) (ki 1)) (sS 4 (xL 0) sEnd)))))))))
 (kSeq (kReg (sS 2 (xT 16) sEnd))
 kRet))))
theorem t236 : FF d236 Tryz.f236 a236 [(.t 2)] := ff Tryz.func236 (by kernel_rfl)
def x236 : XFn := .go a236 2 pd15 [(.t 2)]
def d237 : FD := ⟨237, 1, [2, 3]⟩
def a237 : CodeF := (kSeq (kReg (sS 1 (xK nilfunc) sEnd))
 (kSeq (kSeq (kReg (sS 2 (xT 0) sEnd))
 (kBlock 0 (kRegC (fun k => (sV (oBin .eql .no (xT 2) (ki 10)) k)) (xL 0) (kSeq (kReg (sS 1 (xK (.func (.func 294) [] [])) sEnd))
 kRet)
 (kRegC (fun k => (sV (oBin .eql .no (xT 2) (ki 11)) k)) (xL 0) (kSeq (kReg (sS 1 (xK (.func (.func 295) [] [])) sEnd))
 kRet)
 (kRegC (fun k => (sV (oBin .eql .no (xT 2) (ki 12)) k)) (xL 0) (kSeq (kReg (sC (cFn 296) [(ki 2)] (sS 1 (xL 0) sEnd)))
 kRet)
 (kRegC (fun k => (sV (oBin .eql .no (xT 2) (ki 13)) k)) (xL 0) (kSeq (kReg (sC (cFn 296) [(ki 3)] (sS 1 (xL 0) sEnd)))
 kRet)
 (kRegC (fun k => (sV (oBin .eql .no (xT 2) (ki 14)) k)) (xL 0) (kSeq (kReg (sS 1 (xK (.func (.func 297) [] [])) sEnd))
 kRet)
 (kRegC (fun k => (sV (oBin .eql .no (xT 2) (ki 15)) k)) (xL 0) (kSeq (kReg (sS 1 (xK (.func (.func 298) [] [])) sEnd))
 kRet)
 kSkip))))))))
 (kSeq (kReg (sS 1 (xK nilfunc) sEnd))
 kRet)))
theorem t237 : FF d237 Tryz.f237 a237 [(.t 1)] := ff Tryz.func237 (by kernel_rfl)
def x237 : XFn := .go a237 1 pd2 [(.t 1)]
def d238 : FD := ⟨238, 2, [4]⟩
def a238 : CodeF := (kSeq (kReg (sS 2 (xK (bool false)) sEnd))
 (kSeq (kReg (sC (cFn 299) [(xT 0), (xT 1)] (sV (oBin .geq .no (xL 0) (ki 0)) (sS 2 (xL 0) sEnd))))
 kRet))
theorem t238 : FF d238 Tryz.f238 a238 [(.t 2)] := ff Tryz.func238 (by kernel_rfl)
def x238 : XFn := .go a238 2 pd1 [(.t 2)]
def d239 : FD := ⟨239, 1, [2, 3]⟩
def a239 : CodeF := (kSeq (kReg (sS 1 (xK nils) sEnd))
 (kSeq (kReg (sH (oAlloc 379 1 [nilfunc]) (sS 2 (xL 0) (sH (oStore 1 (xT 2) (xK (.func (.func 300) [] []))) sEnd))))
 (kSeq (kReg (sV (oMkfn 303 [] [(xT 2)]) (sV (oLoad (xT 2)) (sC (cFn 242) [(xT 0), (xL 1), (xL 0)] (sS 1 (xL 0) sEnd)))))
 kRet)))
theorem t239 : FF d239 Tryz.f239 a239 [(.t 1)] := ff Tryz.func239 (by kernel_rfl)
def x239 : XFn := .go a239 1 pd2 [(.t 1)]
def d240 : FD := ⟨240, 1, [2]⟩
def a240 : CodeF := (kSeq (kReg (sS 1 (xK (bool false)) sEnd))
 (kSeq (kReg (sC (cFn 241) [(xT 0)] (sV (oUn .not (xL 0)) (sS 1 (xL 0) sEnd))))
 kRet))
theorem t240 : FF d240 Tryz.f240 a240 [(.t 1)] := ff Tryz.func240 (by kernel_rfl)
def x240 : XFn := .go a240 1 pd1 [(.t 1)]
def d241 : FD := ⟨241, 1, [2, 3]⟩
def a241 : CodeF := (kSeq (kReg (sS 1 (xK (bool false)) sEnd))
 (kSeq (kBlock 0 (kSeq (kRegC (fun k => (sV (oBin .geq .no (xT 0) (xK (int .i32 (.ofNat 9)))) (sG (xL 0) true (sV (oMov (xT 0))) (sG (xL 1) true (sV (oBin .leq .no (xL 0) (xK (int .i32 (.ofNat 13))))) (sV (oPick (xL 2) (xL 0) (xK (bool false))) (sS 2 (xL 0) k)))))) (xT 2) kSkip
 (kRegC (fun k => (sV (oBin .eql .no (xT 0) (xK (int .i32 (.ofNat 32)))) (sS 2 (xL 0) k))) (xT 2) kSkip
 (kRegC (fun k => (sV (oBin .eql .no (xT 0) (xK (int .i32 (.ofNat 133)))) (sS 2 (xL 0) k))) (xT 2) kSkip
 (kRegC (fun k => (sV (oBin .eql .no (xT 0) (xK (int .i32 (.ofNat 160)))) (sS 2 (xL 0) k))) (xT 2) kSkip
 (kRegC (fun k => (sV (oBin .geq .no (xT 0) (xK (int .i32 (.ofNat 8192)))) (sG (xL 0) true (sV (oMov (xT 0))) (sG (xL 1) true (sV (oBin .leq .no (xL 0) (xK (int .i32 (.ofNat 8202))))) (sV (oPick (xL 2) (xL 0) (xK (bool false))) (sS 2 (xL 0) k)))))) (xT 2) kSkip
 (kRegC (fun k => (sV (oBin .eql .no (xT 0) (xK (int .i32 (.ofNat 8232)))) (sS 2 (xL 0) k))) (xT 2) kSkip
 (kRegC (fun k => (sV (oBin .eql .no (xT 0) (xK (int .i32 (.ofNat 8233)))) (sS 2 (xL 0) k))) (xT 2) kSkip
 (kReg (sV (oBin .eql .no (xT 0) (xK (int .i32 (.ofNat 12288)))) (sS 2 (xL 0) sEnd))))))))))
 (kCond (xT 2) (kSeq (kReg (sS 1 (xK (bool true)) sEnd))
 kRet)
 kSkip)))
 (kSeq (kReg (sS 1 (xK (bool false)) sEnd))
 kRet)))
theorem t241 : FF d241 Tryz.f241 a241 [(.t 1)] := ff Tryz.func241 (by kernel_rfl)
def x241 : XFn := .go a241 1 pd2 [(.t 1)]
def d242 : FD := ⟨242, 3, [6, 3, 7, 8, 14, 15, 16, 11, 4, 10, 9, 5]⟩
def a242 : CodeF := (kSeq (kReg (sH (oBox 9 1 (xT 0)) (sS 4 (xL 0) (sH (oBox 379 1 (xT 1)) (sS 11 (xL 0) (sH (oBox 379 1 (xT 2)) (sS 14 (xL 0) (sS 3 (xK nils) sEnd))))))))
 (kSeq (kReg (sH (oAlloc 285 1 [nils]) (sS 5 (xL 0) sEnd)))
 (kSeq (kReg (sH (oAlloc 3 1 [(int .i64 (.ofNat 0))]) (sS 6 (xL 0) (sH (oStore 1 (xT 6) (xK (int .i64 (.negSucc 0)))) sEnd))))
 (kSeq (kReg (sV (oMkfn 305 [] [(xT 6), (xT 5), (xT 4)]) (sH (oAlloc 388 1 [nilfunc]) (sS 13 (xL 0) (sH (oStore 1 (xT 13) (xL 1)) sEnd)))))
 (kSeq (kSeq (kReg (sV (oLoad (xT 4)) (sC (cFn 306) [(xL 0)] (sS 7 (xL 0) sEnd))))
 (kBlock 0 (kRf 134248826 [8, 9] (xT 7))))
 (kSeq (kReg (sV (oLoad (xT 13)) (sV (oLoad (xT 4)) (sV (oLenS (xL 0)) (sC (cVal (xL 2)) [(xL 0)] sEnd)))))
 (kSeq (kReg (sV (oLoad (xT 5)) (sS 3 (xL 0) sEnd)))
 kRet)))))))
theorem t242 : FF d242 Tryz.f242 a242 [(.t 3)] := ff Tryz.func242 (by kernel_rfl)
def x242 : XFn := .go a242 3 pd12 [(.t 3)]
def r242x0 : CodeF × CodeF := ((kSeq (kReg (sS 12 (xT 8) sEnd))
 (kReg (sS 10 (xT 9) sEnd))),
 (kBlock 1 (kBlock 2 (kRegC (fun k => (sV (oLoad (xT 11)) (sC (cVal (xL 0)) [(xT 10)] (sV (oUn .not (xL 0)) k)))) (xL 0) (kReg (sV (oLoad (xT 13)) (sC (cVal (xL 0)) [(xT 12)] sEnd)))
 (kRegC (fun k => (sV (oLoad (xT 6)) (sV (oBin .lss .no (xL 0) (ki 0)) (sG (xL 0) true (sV (oLoad (xT 14))) (sG (xL 1) true (sV (oMov (xT 10))) (sG (xL 2) true (sC (cVal (xL 1)) [(xL 0)]) (sV (oPick (xL 3) (xL 0) (xK (bool false))) k))))))) (xL 0) (kReg (sH (oStore 1 (xT 6) (xT 12)) sEnd))
 kSkip)))))
theorem u242x0 : RfFact Tryz.prog d242 Tryz.f242 134248826 r242x0 := ⟨Tryz.func242, by kernel_rfl⟩
def d243 : FD := ⟨243, 1, [2]⟩
def a243 : CodeF := (kSeq (kReg (sS 1 (xK (bool false)) sEnd))
 (kSeq (kReg (sS 1 (xK (bool true)) sEnd))
 kRet))
theorem t243 : FF d243 Tryz.f243 a243 [(.t 1)] := ff Tryz.func243 (by kernel_rfl)
def x243 : XFn := .go a243 1 pd1 [(.t 1)]
def d244 : FD := ⟨244, 1, [2]⟩
def a244 : CodeF := (kSeq (kReg (sS 1 (xK (bool false)) sEnd))
 (kSeq (kReg (sS 1 (xK (bool true)) sEnd))
 kRet))
theorem t244 : FF d244 Tryz.f244 a244 [(.t 1)] := ff Tryz.func244 (by kernel_rfl)
def x244 : XFn := .go a244 1 pd1 [(.t 1)]
def d245 : FD := ⟨245, 1, [2, 6, 7, 8, 3, 4]⟩
def a245 : CodeF := (kSeq (kReg (sS 1 (xK nils) sEnd))
 (kSeq (kReg (sH (oAlloc 31 1 [nils]) (sS 5 (xL 0) sEnd)))
 (kSeq (kSeq (kReg (sC (cFn 306) [(xT 0)] (sS 2 (xL 0) sEnd)))
 (kBlock 0 (kRf 33562298 [3, 4] (xT 2))))
 (kSeq (kReg (sV (oLoad (xT 5)) (sV (oLenS (xT 0)) (sH (oBsl 3 1 1 [(int .i64 (.ofNat 0))] [(0, 1, (xL 0))]) (sH (oApp 3 1 (xL 2) (xL 0)) (sS 1 (xL 0) sEnd))))))
 kRet))))
theorem t245 : FF d245 Tryz.f245 a245 [(.t 1)] := ff Tryz.func245 (by kernel_rfl)
def x245 : XFn := .go a245 1 pd6 [(.t 1)]
def r245x0 : CodeF × CodeF := ((kReg (sS 6 (xT 3) sEnd)),
 (kBlock 1 (kReg (sV (oLoad (xT 5)) (sH (oBsl 3 1 1 [(int .i64 (.ofNat 0))] [(0, 1, (xT 6))]) (sH (oApp 3 1 (xL 1) (xL 0)) (sH (oStore 1 (xT 5) (xL 0)) sEnd)))))))
theorem u245x0 : RfFact Tryz.prog d245 Tryz.f245 33562298 r245x0 := ⟨Tryz.func245, by kernel_rfl⟩
def d246 : FD := ⟨246, 2, [4, 5]⟩
def a246 : CodeF := (kSeq (kReg (sS 2 (xK (str [])) (sS 3 (xK (bool false)) sEnd)))
 (kSeq (kRegC (fun k => (sC (cFn 307) [(xT 0), (xT 1)] (sV (oUn .not (xL 0)) k))) (xL 0) (kSeq (kReg (sS 2 (xT 0) (sS 3 (xK (bool false)) sEnd)))
 kRet)
 kSkip)
 (kSeq (kReg (sV (oLenS (xT 1)) (sV (oSlcs (xT 0) (some (xL 0)) none) (sS 2 (xL 0) (sS 3 (xK (bool true)) sEnd)))))
 kRet)))
theorem t246 : FF d246 Tryz.f246 a246 [(.t 2), (.t 3)] := ff Tryz.func246 (by kernel_rfl)
def x246 : XFn := .go a246 2 pd2 [(.t 2), (.t 3)]
def d247 : FD := ⟨247, 2, [4, 5, 6, 7]⟩
def a247 : CodeF := (kSeq (kReg (sS 2 (xK (str [])) (sS 3 (xK (str [])) (sS 4 (xK (bool false)) sEnd))))
 (kSeq (kSeq (kReg (sC (cFn 308) [(xT 0), (xT 1)] (sS 5 (xL 0) sEnd)))
 (kRegC (fun k => (sV (oBin .geq .no (xT 5) (ki 0)) k)) (xL 0) (kSeq (kDraw [(.v (oMov (xT 0)), none), (.v (oMov (xT 5)), none), (.v (oSlcs (xL 1) none (some (xL 0))), none), (.v (oMov (xT 0)), none), (.v (oMov (xT 5)), none), (.v (oMov (xT 1)), none), (.v (oLenS (xL 0)), none), (.v (oBin .add .no (xL 2) (xL 0)), none), (.v (oSlcs (xL 4) (some (xL 0)) none), none), (.v (oMov (xL 6)), none), (.v (oMov (xL 1)), none), (.v (oMov (xK (bool true))), none)] 0 [none, none, (some 2), (some 1), (some 0), none] [])
 kRet)
 kSkip))
 (kSeq (kReg (sS 2 (xT 0) (sS 3 (xK (str [])) (sS 4 (xK (bool false)) sEnd))))
 kRet)))
theorem t247 : FF d247 Tryz.f247 a247 [(.t 2), (.t 3), (.t 4)] := ff Tryz.func247 (by kernel_rfl)
def x247 : XFn := .go a247 2 pd4 [(.t 2), (.t 3), (.t 4)]
def d248 : FD := ⟨248, 2, [4]⟩
def a248 : CodeF := (kSeq (kReg (sS 2 (ki 0) sEnd))
 (kSeq (kReg (sC (cFn 309) [(xT 0), (xT 1), (xK (bool true))] (sS 2 (xL 0) sEnd)))
 kRet))
theorem t248 : FF d248 Tryz.f248 a248 [(.t 2)] := ff Tryz.func248 (by kernel_rfl)
def x248 : XFn := .go a248 2 pd1 [(.t 2)]
def d249 : FD := ⟨249, 1, [2]⟩
def a249 : CodeF := (kSeq (kReg (sS 1 (xK (bool false)) sEnd))
 (kSeq (kReg (sV (oBin .lss .no (xT 0) (xK (int .i32 (.ofNat 48)))) (sG (xL 0) false (sV (oMov (xT 0))) (sG (xL 1) false (sV (oBin .gtr .no (xL 0) (xK (int .i32 (.ofNat 57))))) (sV (oPick (xL 2) (xK (bool true)) (xL 0)) (sS 1 (xL 0) sEnd))))))
 kRet))
theorem t249 : FF d249 Tryz.f249 a249 [(.t 1)] := ff Tryz.func249 (by kernel_rfl)
def x249 : XFn := .go a249 1 pd1 [(.t 1)]
def d250 : FD := ⟨250, 2, [4, 5, 7, 6, 9, 8]⟩
def a250 : CodeF := (kSeq (kReg (sS 2 (xK (int .u64 (.ofNat 0))) (sS 3 (xK (int .u64 (.ofNat 0))) sEnd)))
 (kSeq (kCond (xK (bool false)) (kSeq (kReg (sV (oConv .u32 (xT 0)) (sV (oConv .u32 (xT 1)) (sC (cFn 310) [(xL 1), (xL 0)] (sV (oExt 0 (xL 0)) (sV (oExt 1 (xL 1)) (sS 5 (xL 1) (sS 4 (xL 0) sEnd))))))))
 (kSeq (kReg (sV (oConv .u64 (xT 5)) (sV (oConv .u64 (xT 4)) (sS 2 (xL 1) (sS 3 (xL 0) sEnd)))))
 kRet))
 kSkip)
 (kSeq (kReg (sC (cFn 311) [(xT 0), (xT 1)] (sV (oExt 0 (xL 0)) (sV (oExt 1 (xL 1)) (sS 7 (xL 1) (sS 6 (xL 0) sEnd))))))
 (kSeq (kReg (sS 2 (xT 7) (sS 3 (xT 6) sEnd)))
 kRet))))
theorem t250 : FF d250 Tryz.f250 a250 [(.t 2), (.t 3)] := ff Tryz.func250 (by kernel_rfl)
def x250 : XFn := .go a250 2 pd6 [(.t 2), (.t 3)]
def d251 : FD := ⟨251, 2, [4]⟩
def a251 : CodeF := (kSeq (kReg (sS 2 (xK (bool false)) sEnd))
 (kSeq (kReg (sC (cFn 307) [(xT 0), (xT 1)] (sS 2 (xL 0) sEnd)))
 kRet))
theorem t251 : FF d251 Tryz.f251 a251 [(.t 2)] := ff Tryz.func251 (by kernel_rfl)
def x251 : XFn := .go a251 2 pd1 [(.t 2)]
def d252 : FD := ⟨252, 2, [21]⟩
def a252 : CodeF := (kSeq (kReg (sC (cFn 312) [(xT 0)] sEnd))
 (kSeq (kRegC (fun k => (sV (oBin .lss .no (xT 1) (ki 0)) k)) (xL 0) (kReg (sV (oMkif 9 (xK (str [115, 116, 114, 105, 110, 103, 115, 46, 66, 117, 105, 108, 100, 101, 114, 46, 71, 114, 111, 119, 58, 32, 110, 101, 103, 97, 116, 105, 118, 101, 32, 99, 111, 117, 110, 116]))) (sPan (xL 0))))
 kSkip)
 (kSeq (kDraw [(.v (oMov (xT 0)), none), (.v (oNilc (xL 0)), none), (.v (oFaddr 1 (xL 0)), none), (.v (oLoad (xL 0)), none), (.v (oCap (xL 0)), none), (.v (oMov (xT 0)), none), (.v (oNilc (xL 0)), none), (.v (oFaddr 1 (xL 0)), none), (.v (oLoad (xL 0)), none), (.v (oLenL (xL 0)), none), (.v (oBin .sub .no (xL 5) (xL 0)), none), (.v (oMov (xT 1)), none), (.v (oBin .lss .no (xL 1) (xL 0)), none)] 0 [none, none, (some 0)] [])
 (kCond (xT 2) (kReg (sC (cFn 313) [(xT 0), (xT 1)] sEnd))
 kSkip))))
theorem t252 : FF d252 Tryz.f252 a252 [] := ff Tryz.func252 (by kernel_rfl)
def x252 : XFn := .go a252 2 pd1 []
def d253 : FD := ⟨253, 2, [4, 5]⟩
def a253 : CodeF := (kSeq (kReg (sS 2 (ki 0) (sS 3 (xK nilif) sEnd)))
 (kSeq (kReg (sC (cFn 312) [(xT 0)] sEnd))
 (kSeq (kReg (sV (oNilc (xT 0)) (sV (oFaddr 1 (xL 0)) (sV (oLoad (xL 0)) (sH (oApps 5 (xL 0) (xT 1)) (sV (oNilc (xT 0)) (sV (oFaddr 1 (xL 0)) (sH (oStore 1 (xL 0) (xL 2)) sEnd))))))))
 (kSeq (kReg (sV (oLenS (xT 1)) (sS 2 (xL 0) (sS 3 (xK nilif) sEnd))))
 kRet))))
theorem t253 : FF d253 Tryz.f253 a253 [(.t 2), (.t 3)] := ff Tryz.func253 (by kernel_rfl)
def x253 : XFn := .go a253 2 pd2 [(.t 2), (.t 3)]
def d254 : FD := ⟨254, 1, [2]⟩
def a254 : CodeF := (kSeq (kReg (sS 1 (ki 0) sEnd))
 (kSeq (kReg (sV (oNilc (xT 0)) (sV (oFaddr 1 (xL 0)) (sV (oLoad (xL 0)) (sV (oLenL (xL 0)) (sS 1 (xL 0) sEnd))))))
 kRet))
theorem t254 : FF d254 Tryz.f254 a254 [(.t 1)] := ff Tryz.func254 (by kernel_rfl)
def x254 : XFn := .go a254 1 pd1 [(.t 1)]
end
end Go.Proofs.YtkkbhkdldbjlgaaGreatDoor
