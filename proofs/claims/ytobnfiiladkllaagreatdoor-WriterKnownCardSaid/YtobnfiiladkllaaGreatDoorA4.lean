import Derived.Test.YtobnfiiladkllaaGreatDoorP
import Derived.Test.YtobnfiiladkllaaGreatDoorProg
import Derived.KernelRfl
/- The functions of the program as the interpreter has them; each is the program's, by the kernel. -/
set_option maxRecDepth 1000000
namespace Go.Proofs.YtobnfiiladkllaaGreatDoor
open Go Go.Ai AVal
noncomputable section
def d259 : FD := ⟨259, 2, [5, 7, 3]⟩
def a259 : CodeF := (kSeq (kReg (sV (oLoad (xT 1)) (sH (oRngM (xL 0)) (sS 2 (xL 0) sEnd))))
 (kBlock 0 (kLoop (kSeq (kReg (sNext (xT 2) (sV (oExt 0 (xL 0)) (sS 3 (xL 0) sEnd))))
 (kSeq (kCond (xT 3) kSkip
 (kExit 0))
 (kBlock 1 (kSeq (kReg (sV (oEnt (xT 2)) (sV (oExt 0 (xL 0)) (sS 4 (xL 0) sEnd))))
 (kRegC (fun k => (sC (cVal (xT 0)) [(xT 4)] (sV (oUn .not (xL 0)) k))) (xL 0) kRet
 kSkip))))))))
theorem t259 : FF d259 Tryz.f259 a259 [] := ff Tryz.func259 (by kernel_rfl)
def x259 : XFn := .go a259 2 pd3 []
def d260 : FD := ⟨260, 1, [2]⟩
def a260 : CodeF := (kSeq (kReg (sS 1 (xK nils) sEnd))
 (kSeq (kReg (sC (cFn 320) [(xK nils), (xT 0)] (sS 1 (xL 0) sEnd)))
 kRet))
theorem t260 : FF d260 Tryz.f260 a260 [(.t 1)] := ff Tryz.func260 (by kernel_rfl)
def x260 : XFn := .go a260 1 pd1 [(.t 1)]
def d261 : FD := ⟨261, 1, [2]⟩
def a261 : CodeF := (kSeq (kReg (sV (oLenL (xT 0)) (sS 1 (xL 0) sEnd)))
 (kReg (sV (oConv .u64 (xT 1)) (sC (cFn 140) [(xL 0)] (sC (cFn 321) [(xT 0), (ki 0), (xT 1), (xL 0)] sEnd)))))
theorem t261 : FF d261 Tryz.f261 a261 [] := ff Tryz.func261 (by kernel_rfl)
def x261 : XFn := .go a261 1 pd1 []
def d262 : FD := ⟨262, 2, [5, 7, 3]⟩
def a262 : CodeF := (kSeq (kReg (sV (oLoad (xT 1)) (sH (oRngM (xL 0)) (sS 2 (xL 0) sEnd))))
 (kBlock 0 (kLoop (kSeq (kReg (sNext (xT 2) (sV (oExt 0 (xL 0)) (sS 3 (xL 0) sEnd))))
 (kSeq (kCond (xT 3) kSkip
 (kExit 0))
 (kBlock 1 (kSeq (kReg (sV (oEnt (xT 2)) (sV (oExt 0 (xL 0)) (sS 4 (xL 0) sEnd))))
 (kRegC (fun k => (sC (cVal (xT 0)) [(xT 4)] (sV (oUn .not (xL 0)) k))) (xL 0) kRet
 kSkip))))))))
theorem t262 : FF d262 Tryz.f262 a262 [] := ff Tryz.func262 (by kernel_rfl)
def x262 : XFn := .go a262 2 pd3 []
def d263 : FD := ⟨263, 0, [0, 3, 4, 2, 1]⟩
def a263 : CodeF := (kSeq (kReg (sH (oAlloc 420 16 [(int .u32 (.ofNat 0)), (int .u32 (.ofNat 0)), (int .u32 (.ofNat 0)), (int .u32 (.ofNat 0)), (int .u32 (.ofNat 0)), (int .u32 (.ofNat 0)), (int .u32 (.ofNat 0)), (int .u32 (.ofNat 0)), (int .u32 (.ofNat 0)), (int .u32 (.ofNat 0)), (int .u32 (.ofNat 0)), (int .u32 (.ofNat 0)), (int .u32 (.ofNat 0)), (int .u32 (.ofNat 0)), (int .u32 (.ofNat 0)), (int .u32 (.ofNat 0))]) (sS 0 (xL 0) sEnd)))
 (kSeq (kReg (sS 4 (xK (.func (.func 322) [] [])) sEnd))
 (kSeq (kSeq (kReg (sS 1 (ki 0) sEnd))
 (kBlock 0 (kLoop (kSeq (kReg (sV (oBin .lss .no (xT 1) (ki 16)) (sS 2 (xL 0) sEnd)))
 (kSeq (kCond (xT 2) kSkip
 (kExit 0))
 (kSeq (kBlock 1 (kSeq (kReg (sS 3 (xT 1) sEnd))
 (kReg (sV (oConv .u32 (xT 3)) (sC (cVal (xT 4)) [(xL 0)] (sV (oIaddra 16 1 (xT 0) (xT 3)) (sH (oStore 1 (xL 0) (xL 1)) sEnd)))))))
 (kReg (sV (oBin .add .no (xT 1) (ki 1)) (sS 1 (xL 0) sEnd)))))))))
 (kSeq (kReg (sV (oLoadN 16 (xT 0)) (sH (oStore 16 (xT 0) (xL 0)) sEnd)))
 kRet))))
theorem t263 : FF d263 Tryz.f263 a263 [(.cell 0 (some 16))] := ff Tryz.func263 (by kernel_rfl)
def x263 : XFn := .go a263 0 pd5 [(.cell 0 (some 16))]
def d264 : FD := ⟨264, 2, [4, 5, 6, 7, 2, 18, 19, 20, 10, 9, 8, 39, 40, 41, 11]⟩
def a264 : CodeF := (kSeq (kReg (sH (oBox 233 1 (xT 0)) (sS 6 (xL 0) (sS 2 (xK nils) (sS 3 (xK nils) (sS 4 (xK (bool false)) sEnd))))))
 (kSeq (kDraw [(.v (oMov (xT 1)), none), (.v (oMov (xT 1)), none), (.f (oMksl 9 1 [(str [])] (xL 1) (xL 1)), none), (.f (oAlloc 210 1 [nils]), none), (.h (oStore 1 (xL 0) (xL 1)), none), (.f (oMksl 26 1 [(int .u64 (.ofNat 0))] (xL 3) (xL 3)), none), (.v (oMov (xL 0)), none)] 3 [none, none, none, none, none, (some 3), none, none, none, none, none, none, (some 0), none, none, none, none] [])
 (kSeq (kReg (sV (oMkfn 323 [] [(xT 6), (xT 5)]) (sS 11 (xL 0) sEnd)))
 (kSeq (kSeq (kReg (sV (oLoad (xT 5)) (sV (oLenL (xL 0)) (sS 7 (xL 0) (sS 8 (ki 0) sEnd)))))
 (kBlock 0 (kLoop (kSeq (kReg (sV (oBin .lss .no (xT 8) (xT 7)) (sS 9 (xL 0) sEnd)))
 (kSeq (kCond (xT 9) kSkip
 (kExit 0))
 (kSeq (kBlock 1 (kSeq (kReg (sS 10 (xT 8) sEnd))
 (kSeq (kDraw [(.v (oLoad (xT 5)), none), (.v (oMov (xT 10)), none), (.v (oMov (xT 11)), none), (.v (oMov (xT 10)), none), (.c (cVal (xL 1)) [(xL 0)], none), (.v (oIaddr 1 (xL 4) (xL 3)), none), (.h (oStore 1 (xL 0) (xL 1)), none)] 0 [none, none, none, none, none, none, none, none, none, none, none, none, none, none, none, none, none] [(6, 2)])
 (kRegC (fun k => (sV (oBin .gtr .no (xT 10) (ki 0)) (sG (xL 0) true (sV (oLoad (xT 5))) (sG (xL 1) true (sV (oMov (xT 10))) (sG (xL 2) true (sV (oIaddr 1 (xL 1) (xL 0))) (sG (xL 3) true (sV (oLoad (xL 0))) (sG (xL 4) true (sV (oBin .eql .no (xL 0) (xK (str [])))) (sV (oPick (xL 5) (xL 0) (xK (bool false))) k)))))))) (xL 0) (kSeq (kReg (sS 2 (xK nils) (sS 3 (xK nils) (sS 4 (xK (bool false)) sEnd))))
 kRet)
 kSkip))))
 (kReg (sV (oBin .add .no (xT 8) (ki 1)) (sS 8 (xL 0) sEnd)))))))))
 (kSeq (kSeq (kReg (sV (oLenL (xT 12)) (sS 13 (xL 0) (sS 14 (ki 0) sEnd))))
 (kBlock 2 (kLoop (kSeq (kReg (sV (oBin .lss .no (xT 14) (xT 13)) (sS 15 (xL 0) sEnd)))
 (kSeq (kCond (xT 15) kSkip
 (kExit 2))
 (kSeq (kBlock 3 (kSeq (kReg (sS 16 (xT 14) sEnd))
 (kReg (sV (oLoad (xT 6)) (sC (cFn 325) [(xL 0)] (sV (oIaddr 1 (xT 12) (xT 16)) (sH (oStore 1 (xL 0) (xL 1)) sEnd)))))))
 (kReg (sV (oBin .add .no (xT 14) (ki 1)) (sS 14 (xL 0) sEnd)))))))))
 (kSeq (kDraw [(.v (oLoad (xT 5)), none), (.v (oMov (xT 12)), none), (.v (oLoad (xT 6)), none), (.c (cFn 122) [(xL 0)], none), (.v (oBin .eql .no (xL 0) (ki 0)), none), (.v (oMov (xL 4)), none), (.v (oMov (xL 4)), none), (.v (oMov (xL 2)), none)] 0 [none, none, (some 2), (some 1), (some 0), none, none, none, none, none, none, none, none, none, none, none, none] [(7, 4)])
 kRet))))))
theorem t264 : FF d264 Tryz.f264 a264 [(.t 2), (.t 3), (.t 4)] := ff Tryz.func264 (by kernel_rfl)
def x264 : XFn := .go a264 2 pd15 [(.t 2), (.t 3), (.t 4)]
def d265 : FD := ⟨265, 2, [4]⟩
def a265 : CodeF := (kSeq (kReg (sS 2 (ki 0) sEnd))
 (kSeq (kReg (sV (oNilc (xT 0)) (sV (oFaddr 2 (xL 0)) (sV (oLoad (xL 0)) (sV (oBin .mul .no (xT 1) (ki 16)) (sV (oBin .sub .no (xL 1) (xL 0)) (sV (oMm false (ki 16) [(xL 0)]) (sS 2 (xL 0) sEnd))))))))
 kRet))
theorem t265 : FF d265 Tryz.f265 a265 [(.t 2)] := ff Tryz.func265 (by kernel_rfl)
def x265 : XFn := .go a265 2 pd1 [(.t 2)]
def d266 : FD := ⟨266, 1, [2, 3, 17, 18, 5, 6, 4, 8, 7]⟩
def a266 : CodeF := (kSeq (kReg (sS 1 (xK nils) (sS 2 (ki 0) sEnd)))
 (kSeq (kRegC (fun k => (sC (cFn 326) [(xT 0)] (sV (oUn .not (xL 0)) k))) (xL 0) (kSeq (kReg (sS 1 (xK nils) (sS 2 (ki 1) sEnd)))
 kRet)
 kSkip)
 (kSeq (kReg (sV (oLenL (xT 0)) (sV (oConv .u64 (xL 0)) (sC (cFn 127) [(xK nils), (xL 0)] (sH (oAlloc 137 1 [nils]) (sS 7 (xL 0) (sH (oStore 1 (xT 7) (xL 1)) sEnd)))))))
 (kSeq (kReg (sH (oAlloc 3 1 [(int .i64 (.ofNat 0))]) (sS 5 (xL 0) (sH (oStore 1 (xT 5) (xK (int .i64 (.negSucc 0)))) sEnd))))
 (kSeq (kSeq (kReg (sC (cFn 327) [(xT 0), (ki 8)] (sS 3 (xL 0) sEnd)))
 (kBlock 0 (kRf 134251898 [4] (xT 3))))
 (kSeq (kReg (sV (oLoad (xT 7)) (sC (cFn 196) [(xL 0)] (sS 1 (xL 0) (sS 2 (ki 0) sEnd)))))
 kRet))))))
theorem t266 : FF d266 Tryz.f266 a266 [(.t 1), (.t 2)] := ff Tryz.func266 (by kernel_rfl)
def x266 : XFn := .go a266 1 pd9 [(.t 1), (.t 2)]
def r266x0 : CodeF × CodeF := ((kReg (sS 6 (xT 4) sEnd)),
 (kBlock 1 (kSeq (kReg (sV (oLoad (xT 5)) (sC (cFn 328) [(xT 6), (xL 0)] (sS 9 (xL 0) sEnd))))
 (kSeq (kReg (sV (oLenL (xT 6)) (sV (oBin .sub .no (xL 0) (ki 1)) (sV (oIaddr 2 (xT 6) (xL 0)) (sV (oFaddr 0 (xL 0)) (sV (oLoad (xL 0)) (sS 8 (xL 0) sEnd)))))))
 (kSeq (kDraw [(.v (oLoad (xT 7)), none), (.v (oMov (xT 9)), none), (.v (oLenL (xL 0)), none), (.v (oConv .u64 (xL 0)), none), (.c (cFn 127) [(xL 3), (xL 0)], none), (.v (oMov (xT 8)), none), (.v (oLoad (xT 5)), none), (.v (oBin .sub .no (xL 1) (xL 0)), none), (.v (oConv .u64 (xL 0)), none), (.c (cFn 127) [(xL 4), (xL 0)], none), (.h (oStore 1 (xT 7) (xL 0)), none)] 0 [none, none, none, none, none, none, none, none, none, none] [(4, 6)])
 (kSeq (kReg (sV (oLoad (xT 7)) (sH (oApp 5 1 (xL 0) (xT 9)) (sH (oStore 1 (xT 7) (xL 0)) sEnd))))
 (kReg (sH (oStore 1 (xT 5) (xT 8)) sEnd))))))))
theorem u266x0 : RfFact Tryz.prog d266 Tryz.f266 134251898 r266x0 := ⟨Tryz.func266, by kernel_rfl⟩
def d267 : FD := ⟨267, 1, [2, 3, 5, 6, 4, 32, 33, 34, 9, 7, 8, 10, 13, 63, 64, 65, 16, 15, 11, 14, 12, 18, 17]⟩
def a267 : CodeF := (kSeq (kReg (sH (oAlloc 427 2 [nils, nils]) (sS 1 (xL 0) (sS 2 (xK (bool false)) sEnd))))
 (kSeq (kReg (sH (oAlloc 427 2 [nils, nils]) (sS 5 (xL 0) sEnd)))
 (kSeq (kReg (sC (cFn 116) [(xT 0)] (sS 3 (xL 0) sEnd)))
 (kSeq (kReg (sC (cFn 117) [(xT 3), (ki 16384)] (sS 4 (xL 0) sEnd)))
 (kSeq (kReg (sV (oBin .add .no (xT 4) (ki 7)) (sV (oBin .quo .no (xL 0) (ki 8)) (sC (cFn 119) [(xT 3), (xL 0)] (sS 10 (xL 0) sEnd)))))
 (kSeq (kRegC (fun k => (sC (cFn 122) [(xT 3)] (sV (oBin .neq .no (xL 0) (ki 0)) k))) (xL 0) (kSeq (kReg (sV (oLoadN 2 (xT 5)) (sH (oStore 2 (xT 1) (xL 0)) (sS 2 (xK (bool false)) sEnd))))
 kRet)
 kSkip)
 (kSeq (kReg (sS 11 (ki 0) sEnd))
 (kSeq (kSeq (kReg (sS 6 (xT 4) (sS 7 (ki 0) sEnd)))
 (kBlock 0 (kLoop (kSeq (kReg (sV (oBin .lss .no (xT 7) (xT 6)) (sS 8 (xL 0) sEnd)))
 (kSeq (kCond (xT 8) kSkip
 (kExit 0))
 (kSeq (kBlock 1 (kSeq (kReg (sS 9 (xT 7) sEnd))
 (kReg (sV (oMov (xT 11)) (sV (oBin .quo .no (xT 9) (ki 8)) (sV (oIaddr 1 (xT 10) (xL 0)) (sV (oLoad (xL 0)) (sV (oBin .rem .no (xT 9) (ki 8)) (sV (oBin .shr .no (xL 1) (xL 0)) (sV (oBin .and .no (xL 0) (xK (int .u8 (.ofNat 1)))) (sV (oConv .i64 (xL 0)) (sV (oBin .add .no (xL 7) (xL 0)) (sS 11 (xL 0) sEnd)))))))))))))
 (kReg (sV (oBin .add .no (xT 7) (ki 1)) (sS 7 (xL 0) sEnd)))))))))
 (kSeq (kReg (sC (cFn 120) [(xT 3)] (sC (cFn 119) [(xT 3), (xL 0)] (sS 12 (xL 0) sEnd))))
 (kSeq (kReg (sC (cFn 118) [(xT 12), (xT 11)] (sV (oExt 0 (xL 0)) (sV (oExt 1 (xL 1)) (sV (oExt 2 (xL 2)) (sS 19 (xL 2) (sS 21 (xL 1) (sS 13 (xL 0) sEnd))))))))
 (kSeq (kRegC (fun k => (sV (oBin .neq .no (xT 13) (ki 0)) k)) (xL 0) (kSeq (kReg (sV (oLoadN 2 (xT 5)) (sH (oStore 2 (xT 1) (xL 0)) (sS 2 (xK (bool false)) sEnd))))
 kRet)
 kSkip)
 (kSeq (kReg (sS 20 (ki 0) (sS 18 (ki 0) sEnd)))
 (kSeq (kSeq (kReg (sS 14 (xT 4) (sS 15 (ki 0) sEnd)))
 (kBlock 2 (kLoop (kSeq (kReg (sV (oBin .lss .no (xT 15) (xT 14)) (sS 16 (xL 0) sEnd)))
 (kSeq (kCond (xT 16) kSkip
 (kExit 2))
 (kSeq (kBlock 3 (kSeq (kReg (sS 17 (xT 15) sEnd))
 (kSeq (kRegC (fun k => (sV (oBin .quo .no (xT 17) (ki 8)) (sV (oIaddr 1 (xT 10) (xL 0)) (sV (oLoad (xL 0)) (sV (oBin .rem .no (xT 17) (ki 8)) (sV (oBin .shr .no (xL 1) (xL 0)) (sV (oBin .and .no (xL 0) (xK (int .u8 (.ofNat 1)))) (sV (oBin .eql .no (xL 0) (xK (int .u8 (.ofNat 1)))) k)))))))) (xL 0) (kSeq (kRegC (fun k => (sV (oIaddr 1 (xT 19) (xT 18)) (sV (oLoad (xL 0)) (sV (oBin .lss .no (xL 0) (ki 0)) (sG (xL 0) false (sV (oMov (xT 19))) (sG (xL 1) false (sV (oMov (xT 18))) (sG (xL 2) false (sV (oIaddr 1 (xL 1) (xL 0))) (sG (xL 3) false (sV (oLoad (xL 0))) (sG (xL 4) false (sV (oBin .geq .no (xL 0) (ki 64))) (sV (oPick (xL 5) (xK (bool true)) (xL 0)) k)))))))))) (xL 0) (kSeq (kReg (sV (oLoadN 2 (xT 5)) (sH (oStore 2 (xT 1) (xL 0)) (sS 2 (xK (bool false)) sEnd))))
 kRet)
 kSkip)
 (kSeq (kReg (sV (oMov (xT 20)) (sV (oIaddr 1 (xT 19) (xT 18)) (sV (oLoad (xL 0)) (sV (oBin .add .no (xL 0) (ki 1)) (sV (oBin .add .no (xL 3) (xL 0)) (sS 20 (xL 0) sEnd)))))))
 (kReg (sV (oMov (xT 18)) (sV (oBin .add .no (xL 0) (ki 1)) (sS 18 (xL 0) sEnd))))))
 kSkip)
 (kReg (sV (oFaddr 0 (xT 5)) (sV (oLoad (xL 0)) (sH (oBsl 3 1 1 [(int .i64 (.ofNat 0))] [(0, 1, (xT 20))]) (sH (oApp 3 1 (xL 1) (xL 0)) (sV (oFaddr 0 (xT 5)) (sH (oStore 1 (xL 0) (xL 1)) sEnd))))))))))
 (kReg (sV (oBin .add .no (xT 15) (ki 1)) (sS 15 (xL 0) sEnd)))))))))
 (kSeq (kReg (sV (oSlc 1 (xT 12) (some (xT 21)) none none) (sC (cFn 118) [(xL 0), (xT 20)] (sV (oExt 0 (xL 0)) (sV (oExt 1 (xL 1)) (sV (oExt 2 (xL 2)) (sS 23 (xL 2) (sS 22 (xL 1) (sS 13 (xL 0) sEnd)))))))))
 (kSeq (kRegC (fun k => (sV (oBin .neq .no (xT 13) (ki 0)) (sG (xL 0) false (sV (oMov (xT 21))) (sG (xL 1) false (sV (oMov (xT 22))) (sG (xL 2) false (sV (oBin .add .no (xL 1) (xL 0))) (sG (xL 3) false (sV (oMov (xT 12))) (sG (xL 4) false (sV (oLenL (xL 0))) (sG (xL 5) false (sV (oBin .neq .no (xL 2) (xL 0))) (sV (oPick (xL 6) (xK (bool true)) (xL 0)) k))))))))) (xL 0) (kSeq (kReg (sV (oLoadN 2 (xT 5)) (sH (oStore 2 (xT 1) (xL 0)) (sS 2 (xK (bool false)) sEnd))))
 kRet)
 kSkip)
 (kSeq (kReg (sV (oFaddr 1 (xT 5)) (sH (oStore 1 (xL 0) (xT 23)) sEnd)))
 (kSeq (kReg (sV (oLoadN 2 (xT 5)) (sH (oStore 2 (xT 1) (xL 0)) (sS 2 (xK (bool true)) sEnd))))
 kRet)))))))))))))))))
theorem t267 : FF d267 Tryz.f267 a267 [(.cell 1 (some 2)), (.t 2)] := ff Tryz.func267 (by kernel_rfl)
def x267 : XFn := .go a267 1 pd23 [(.cell 1 (some 2)), (.t 2)]
def d268 : FD := ⟨268, 2, [4]⟩
def a268 : CodeF := (kSeq (kReg (sS 2 (xK (bool false)) sEnd))
 (kSeq (kReg (sC (cFn 329) [(xT 0), (xT 1)] (sV (oBin .geq .no (xL 0) (ki 0)) (sS 2 (xL 0) sEnd))))
 kRet))
theorem t268 : FF d268 Tryz.f268 a268 [(.t 2)] := ff Tryz.func268 (by kernel_rfl)
def x268 : XFn := .go a268 2 pd1 [(.t 2)]
def d269 : FD := ⟨269, 2, [3]⟩
def a269 : CodeF := (kSeq (kReg (sS 2 (xK (bool false)) sEnd))
 (kSeq (kReg (sV (oBin .lss .no (xT 0) (ki 0)) (sG (xL 0) false (sV (oMov (xT 0))) (sG (xL 1) false (sV (oLoad (xT 1))) (sG (xL 2) false (sV (oNilc (xL 0))) (sG (xL 3) false (sV (oFaddr 2 (xL 0))) (sG (xL 4) false (sV (oLoad (xL 0))) (sG (xL 5) false (sV (oLenL (xL 0))) (sG (xL 6) false (sV (oBin .geq .no (xL 5) (xL 0))) (sV (oPick (xL 7) (xK (bool true)) (xL 0)) (sS 2 (xL 0) sEnd)))))))))))
 kRet))
theorem t269 : FF d269 Tryz.f269 a269 [(.t 2)] := ff Tryz.func269 (by kernel_rfl)
def x269 : XFn := .go a269 2 pd1 [(.t 2)]
def d270 : FD := ⟨270, 1, [2]⟩
def a270 : CodeF := (kSeq (kReg (sS 1 (ki 0) sEnd))
 (kSeq (kRegC (fun k => (sV (oBin .eql .ptr (xT 0) (xK nilptr)) k)) (xL 0) (kSeq (kReg (sS 1 (ki 0) sEnd))
 kRet)
 kSkip)
 (kSeq (kReg (sV (oNilc (xT 0)) (sV (oFaddr 0 (xL 0)) (sC (cFn 330) [(xL 0)] (sS 1 (xL 0) sEnd)))))
 kRet)))
theorem t270 : FF d270 Tryz.f270 a270 [(.t 1)] := ff Tryz.func270 (by kernel_rfl)
def x270 : XFn := .go a270 1 pd1 [(.t 1)]
def d271 : FD := ⟨271, 2, [4, 11, 12, 13, 10, 7, 5]⟩
def a271 : CodeF := (kSeq (kReg (sS 2 (xK nils) sEnd))
 (kSeq (kReg (sS 8 (xK nils) sEnd))
 (kSeq (kSeq (kReg (sC (cFn 331) [(xT 0), (xT 1)] (sS 6 (xL 0) (sV (oLenL (xT 6)) (sS 3 (xL 0) (sS 4 (ki 0) sEnd))))))
 (kBlock 0 (kLoop (kSeq (kReg (sV (oBin .lss .no (xT 4) (xT 3)) (sS 5 (xL 0) sEnd)))
 (kSeq (kCond (xT 5) kSkip
 (kExit 0))
 (kSeq (kBlock 1 (kSeq (kReg (sV (oIaddr 1 (xT 6) (xT 4)) (sV (oLoad (xL 0)) (sS 7 (xL 0) sEnd))))
 (kReg (sV (oMov (xT 8)) (sV (oNilc (xT 0)) (sV (oFaddr 2 (xL 0)) (sV (oLoad (xL 0)) (sV (oIaddr 1 (xL 0) (xT 7)) (sV (oLoad (xL 0)) (sH (oBsl 9 1 1 [(str [])] [(0, 1, (xL 0))]) (sH (oApp 9 1 (xL 6) (xL 0)) (sS 8 (xL 0) sEnd))))))))))))
 (kReg (sV (oBin .add .no (xT 4) (ki 1)) (sS 4 (xL 0) sEnd)))))))))
 (kSeq (kReg (sS 2 (xT 8) sEnd))
 kRet))))
theorem t271 : FF d271 Tryz.f271 a271 [(.t 2)] := ff Tryz.func271 (by kernel_rfl)
def x271 : XFn := .go a271 2 pd7 [(.t 2)]
def d276 : FD := ⟨276, 3, [4, 5]⟩
def a276 : CodeF := (kSeq (kReg (sS 3 (ki 0) sEnd))
 (kBlock 0 (kLoop (kSeq (kRegC (fun k => (sV (oLoad (xT 1)) (sV (oLenL (xL 0)) (sV (oBin .lss .no (xT 3) (xL 0)) k)))) (xL 0) kSkip
 (kExit 0))
 (kSeq (kBlock 1 (kSeq (kDraw [(.v (oLoad (xT 2)), none), (.v (oLoad (xT 1)), none), (.v (oMov (xT 3)), none), (.v (oSlc 1 (xL 1) (some (xL 0)) none none), none), (.v (oLenL (xL 0)), none), (.v (oMm false (xL 4) [(xL 0)]), none), (.v (oMov (xL 0)), none)] 0 [none, none, none, none, (some 0)] [])
 (kRegC (fun k => (sV (oLoad (xT 1)) (sV (oBin .add .no (xT 3) (xT 4)) (sV (oBin .add .no (xT 3) (xT 4)) (sV (oSlc 1 (xL 2) (some (xT 3)) (some (xL 1)) (some (xL 0))) (sC (cVal (xT 0)) [(xL 0)] (sV (oUn .not (xL 0)) k))))))) (xL 0) kRet
 kSkip)))
 (kReg (sV (oMov (xT 3)) (sV (oLoad (xT 2)) (sV (oBin .add .no (xL 1) (xL 0)) (sS 3 (xL 0) sEnd))))))))))
theorem t276 : FF d276 Tryz.f276 a276 [] := ff Tryz.func276 (by kernel_rfl)
def x276 : XFn := .go a276 3 pd2 []
def d277 : FD := ⟨277, 3, [6, 8, 7]⟩
def a277 : CodeF := (kSeq (kReg (sS 3 (xK nils) sEnd))
 (kSeq (kReg (sC (cFn 123) [(xT 0)] (sS 5 (xL 0) sEnd)))
 (kSeq (kReg (sC (cVal (xT 2)) [(xT 1)] (sS 4 (xL 0) sEnd)))
 (kSeq (kBlock 0 (kLoop (kSeq (kRegC (fun k => (sV (oBin .gtr .no (xT 4) (xK (int .u64 (.ofNat 127)))) k)) (xL 0) kSkip
 (kExit 0))
 (kSeq (kBlock 1 (kReg (sV (oMov (xT 5)) (sV (oConv .u8 (xT 4)) (sV (oBin .or .no (xL 0) (xK (int .u8 (.ofNat 128)))) (sH (oBsl 5 1 1 [(int .u8 (.ofNat 0))] [(0, 1, (xL 0))]) (sH (oApp 5 1 (xL 3) (xL 0)) (sS 5 (xL 0) sEnd))))))))
 (kReg (sV (oMov (xT 4)) (sV (oBin .shr .no (xL 0) (xK (int .u64 (.ofNat 7)))) (sS 4 (xL 0) sEnd))))))))
 (kSeq (kReg (sV (oConv .u8 (xT 4)) (sH (oBsl 5 1 1 [(int .u8 (.ofNat 0))] [(0, 1, (xL 0))]) (sH (oApp 5 1 (xT 5) (xL 0)) (sC (cFn 196) [(xL 0)] (sS 3 (xL 0) sEnd))))))
 kRet)))))
theorem t277 : FF d277 Tryz.f277 a277 [(.t 3)] := ff Tryz.func277 (by kernel_rfl)
def x277 : XFn := .go a277 3 pd3 [(.t 3)]
def d278 : FD := ⟨278, 1, [2]⟩
def a278 : CodeF := (kSeq (kReg (sS 1 (xK (int .u64 (.ofNat 0))) sEnd))
 (kSeq (kReg (sV (oBin .shl .no (xT 0) (xK (int .u64 (.ofNat 1)))) (sV (oConv .u64 (xL 0)) (sV (oBin .shr .no (xT 0) (xK (int .u64 (.ofNat 63)))) (sV (oConv .u64 (xL 0)) (sV (oBin .xor .no (xL 2) (xL 0)) (sS 1 (xL 0) sEnd)))))))
 kRet))
theorem t278 : FF d278 Tryz.f278 a278 [(.t 1)] := ff Tryz.func278 (by kernel_rfl)
def x278 : XFn := .go a278 1 pd1 [(.t 1)]
def d279 : FD := ⟨279, 1, [2, 3, 4, 5, 18, 19, 20, 17, 7, 63, 64, 65, 62, 9]⟩
def a279 : CodeF := (kSeq (kReg (sS 1 (xK nils) (sS 2 (xK (bool false)) sEnd)))
 (kSeq (kReg (sH (oAlloc 137 1 [nils]) (sS 3 (xL 0) sEnd)))
 (kSeq (kReg (sV (oMkfn 333 [] [(xT 3)]) (sS 4 (xL 0) sEnd)))
 (kSeq (kReg (sV (oLenL (xT 0)) (sV (oConv .u64 (xL 0)) (sC (cFn 127) [(xK nils), (xL 0)] (sC (cVal (xT 4)) [(xL 0)] sEnd)))))
 (kSeq (kSeq (kReg (sS 8 (xT 0) (sV (oLenL (xT 8)) (sS 5 (xL 0) (sS 6 (ki 0) sEnd)))))
 (kBlock 0 (kLoop (kSeq (kReg (sV (oBin .lss .no (xT 6) (xT 5)) (sS 7 (xL 0) sEnd)))
 (kSeq (kCond (xT 7) kSkip
 (kExit 0))
 (kSeq (kBlock 1 (kSeq (kReg (sV (oIaddr 3 (xT 8) (xT 6)) (sV (oLoadN 3 (xL 0)) (sH (oAlloc 50 3 [(str []), (str []), nils]) (sS 9 (xL 0) (sH (oStore 3 (xT 9) (xL 1)) sEnd))))))
 (kSeq (kRegC (fun k => (sV (oLenL (xT 0)) (sV (oBin .gtr .no (xL 0) (ki 64)) (sG (xL 0) false (sV (oFaddr 0 (xT 9))) (sG (xL 1) false (sV (oLoad (xL 0))) (sG (xL 2) false (sV (oLenS (xL 0))) (sG (xL 3) false (sV (oBin .gtr .no (xL 0) (ki 24))) (sV (oPick (xL 4) (xK (bool true)) (xL 0)) (sG (xL 0) false (sV (oFaddr 1 (xT 9))) (sG (xL 1) false (sV (oLoad (xL 0))) (sG (xL 2) false (sV (oLenS (xL 0))) (sG (xL 3) false (sV (oBin .gtr .no (xL 0) (ki 4096))) (sV (oPick (xL 4) (xK (bool true)) (xL 0)) (sG (xL 0) false (sV (oFaddr 2 (xT 9))) (sG (xL 1) false (sV (oLoad (xL 0))) (sG (xL 2) false (sV (oLenL (xL 0))) (sG (xL 3) false (sV (oBin .gtr .no (xL 0) (ki 4))) (sV (oPick (xL 4) (xK (bool true)) (xL 0)) k)))))))))))))))))) (xL 0) (kSeq (kReg (sS 1 (xK nils) (sS 2 (xK (bool false)) sEnd)))
 kRet)
 kSkip)
 (kSeq (kReg (sV (oFaddr 0 (xT 9)) (sV (oLoad (xL 0)) (sC (cFn 282) [(xK nils), (xL 0)] (sC (cVal (xT 4)) [(xL 0)] sEnd)))))
 (kSeq (kReg (sV (oFaddr 1 (xT 9)) (sV (oLoad (xL 0)) (sC (cFn 282) [(xK nils), (xL 0)] (sC (cVal (xT 4)) [(xL 0)] sEnd)))))
 (kSeq (kReg (sV (oFaddr 2 (xT 9)) (sV (oLoad (xL 0)) (sV (oLenL (xL 0)) (sV (oConv .u64 (xL 0)) (sC (cFn 127) [(xK nils), (xL 0)] (sC (cVal (xT 4)) [(xL 0)] sEnd)))))))
 (kSeq (kReg (sV (oFaddr 2 (xT 9)) (sV (oLoad (xL 0)) (sS 13 (xL 0) (sV (oLenL (xT 13)) (sS 10 (xL 0) (sS 11 (ki 0) sEnd)))))))
 (kBlock 2 (kLoop (kSeq (kReg (sV (oBin .lss .no (xT 11) (xT 10)) (sS 12 (xL 0) sEnd)))
 (kSeq (kCond (xT 12) kSkip
 (kExit 2))
 (kSeq (kBlock 3 (kSeq (kReg (sV (oIaddr 1 (xT 13) (xT 11)) (sV (oLoad (xL 0)) (sS 14 (xL 0) sEnd))))
 (kReg (sC (cFn 214) [(xK nils), (xT 14)] (sC (cVal (xT 4)) [(xL 0)] sEnd)))))
 (kReg (sV (oBin .add .no (xT 11) (ki 1)) (sS 11 (xL 0) sEnd)))))))))))))))
 (kReg (sV (oBin .add .no (xT 6) (ki 1)) (sS 6 (xL 0) sEnd)))))))))
 (kSeq (kReg (sV (oLoad (xT 3)) (sS 1 (xL 0) (sS 2 (xK (bool true)) sEnd))))
 kRet))))))
theorem t279 : FF d279 Tryz.f279 a279 [(.t 1), (.t 2)] := ff Tryz.func279 (by kernel_rfl)
def x279 : XFn := .go a279 1 pd14 [(.t 1), (.t 2)]
def d280 : FD := ⟨280, 2, [4, 5, 27, 28, 29, 26, 7, 6, 9, 10, 12, 13, 11, 102, 103, 104, 101, 15, 8]⟩
def a280 : CodeF := (kSeq (kReg (sS 2 (xK nils) (sS 3 (ki 0) sEnd)))
 (kSeq (kRegC (fun k => (sV (oLenL (xT 0)) (sV (oBin .gtr .no (xL 0) (ki 1048576)) (sG (xL 0) false (sV (oMov (xT 0))) (sG (xL 1) false (sV (oLenL (xL 0))) (sG (xL 2) false (sV (oMov (xT 1))) (sG (xL 3) false (sV (oLenL (xL 0))) (sG (xL 4) false (sV (oBin .neq .no (xL 2) (xL 0))) (sV (oPick (xL 5) (xK (bool true)) (xL 0)) k))))))))) (xL 0) (kSeq (kReg (sS 2 (xK nils) (sS 3 (ki 1) sEnd)))
 kRet)
 kSkip)
 (kSeq (kSeq (kReg (sS 7 (xT 0) (sV (oLenL (xT 7)) (sS 4 (xL 0) (sS 5 (ki 0) sEnd)))))
 (kBlock 0 (kLoop (kSeq (kReg (sV (oBin .lss .no (xT 5) (xT 4)) (sS 6 (xL 0) sEnd)))
 (kSeq (kCond (xT 6) kSkip
 (kExit 0))
 (kSeq (kBlock 1 (kSeq (kReg (sV (oIaddr 1 (xT 7) (xT 5)) (sV (oLoad (xL 0)) (sS 9 (xT 5) (sS 8 (xL 0) sEnd)))))
 (kRegC (fun k => (sV (oLenS (xT 8)) (sV (oBin .gtr .no (xL 0) (ki 4096)) (sG (xL 0) false (sV (oMov (xT 9))) (sG (xL 1) false (sV (oBin .gtr .no (xL 0) (ki 0))) (sG (xL 2) false (sV (oMov (xL 0))) (sG (xL 0) true (sV (oMov (xT 0))) (sG (xL 1) true (sV (oMov (xT 9))) (sG (xL 2) true (sV (oBin .sub .no (xL 0) (ki 1))) (sG (xL 3) true (sV (oIaddr 1 (xL 2) (xL 0))) (sG (xL 4) true (sV (oLoad (xL 0))) (sG (xL 5) true (sV (oMov (xT 8))) (sG (xL 6) true (sV (oBin .geq .no (xL 1) (xL 0))) (sG (xL 10) false (sV (oPick (xL 7) (xL 0) (xK (bool false)))) (sV (oPick (xL 11) (xK (bool true)) (xL 0)) k))))))))))))))) (xL 0) (kSeq (kReg (sS 2 (xK nils) (sS 3 (ki 1) sEnd)))
 kRet)
 kSkip)))
 (kReg (sV (oBin .add .no (xT 5) (ki 1)) (sS 5 (xL 0) sEnd)))))))))
 (kSeq (kReg (sV (oLenL (xT 0)) (sV (oConv .u64 (xL 0)) (sC (cFn 127) [(xK nils), (xL 0)] (sS 20 (xL 0) sEnd)))))
 (kSeq (kSeq (kReg (sS 10 (ki 0) sEnd))
 (kBlock 2 (kLoop (kSeq (kRegC (fun k => (sV (oLenL (xT 0)) (sV (oBin .lss .no (xT 10) (xL 0)) k))) (xL 0) kSkip
 (kExit 2))
 (kSeq (kBlock 3 (kSeq (kReg (sV (oBin .add .no (xT 10) (ki 16)) (sV (oLenL (xT 0)) (sV (oMm false (xL 1) [(xL 0)]) (sS 11 (xL 0) sEnd)))))
 (kSeq (kReg (sV (oIaddr 1 (xT 0) (xT 10)) (sV (oLoad (xL 0)) (sC (cFn 282) [(xK nils), (xL 0)] (sS 14 (xL 0) sEnd)))))
 (kSeq (kSeq (kReg (sV (oBin .add .no (xT 10) (ki 1)) (sS 12 (xL 0) sEnd)))
 (kBlock 4 (kLoop (kSeq (kRegC (fun k => (sV (oBin .lss .no (xT 12) (xT 11)) k)) (xL 0) kSkip
 (kExit 4))
 (kSeq (kBlock 5 (kSeq (kDraw [(.v (oMov (xT 0)), none), (.v (oMov (xT 12)), none), (.v (oBin .sub .no (xL 0) (ki 1)), none), (.v (oIaddr 1 (xL 2) (xL 0)), none), (.v (oLoad (xL 0)), none), (.v (oMov (xT 0)), none), (.v (oMov (xT 12)), none), (.v (oIaddr 1 (xL 1) (xL 0)), none), (.v (oLoad (xL 0)), none), (.c (cFn 324) [(xL 4), (xL 0)], none), (.v (oMov (xL 0)), none)] 0 [none, none, none, none, none, none, none, none, none, none, none, none, none, (some 0), none, none, none, none, none, none, none] [])
 (kDraw [(.v (oMov (xT 14)), none), (.v (oMov (xT 13)), none), (.v (oConv .u64 (xL 0)), none), (.c (cFn 127) [(xL 2), (xL 0)], none), (.v (oMov (xT 0)), none), (.v (oMov (xT 12)), none), (.v (oIaddr 1 (xL 1) (xL 0)), none), (.v (oLoad (xL 0)), none), (.v (oMov (xT 13)), none), (.v (oSlcs (xL 1) (some (xL 0)) none), none), (.c (cFn 282) [(xL 6), (xL 0)], none), (.v (oMov (xL 0)), none)] 0 [none, none, none, none, none, none, none, none, none, none, none, none, none, none, (some 0), none, none, none, none, none, none] [(4, 8)])))
 (kReg (sV (oMov (xT 12)) (sV (oBin .add .no (xL 0) (ki 1)) (sS 12 (xL 0) sEnd)))))))))
 (kSeq (kSeq (kReg (sV (oSlc 1 (xT 1) (some (xT 10)) (some (xT 11)) none) (sS 18 (xL 0) (sV (oLenL (xT 18)) (sS 15 (xL 0) (sS 16 (ki 0) sEnd))))))
 (kBlock 6 (kLoop (kSeq (kReg (sV (oBin .lss .no (xT 16) (xT 15)) (sS 17 (xL 0) sEnd)))
 (kSeq (kCond (xT 17) kSkip
 (kExit 6))
 (kSeq (kBlock 7 (kSeq (kReg (sV (oIaddr 1 (xT 18) (xT 16)) (sV (oLoad (xL 0)) (sS 19 (xL 0) sEnd))))
 (kReg (sV (oMov (xT 14)) (sC (cFn 127) [(xL 0), (xT 19)] (sS 14 (xL 0) sEnd))))))
 (kReg (sV (oBin .add .no (xT 16) (ki 1)) (sS 16 (xL 0) sEnd)))))))))
 (kReg (sV (oMov (xT 20)) (sH (oApp 5 1 (xL 0) (xT 14)) (sS 20 (xL 0) sEnd)))))))))
 (kReg (sV (oMov (xT 10)) (sV (oBin .add .no (xL 0) (ki 16)) (sS 10 (xL 0) sEnd)))))))))
 (kSeq (kReg (sC (cFn 196) [(xT 20)] (sS 2 (xL 0) (sS 3 (ki 0) sEnd))))
 kRet))))))
theorem t280 : FF d280 Tryz.f280 a280 [(.t 2), (.t 3)] := ff Tryz.func280 (by kernel_rfl)
def x280 : XFn := .go a280 2 pd19 [(.t 2), (.t 3)]
def d281 : FD := ⟨281, 1, [2, 3, 12, 13, 14, 11, 6, 4]⟩
def a281 : CodeF := (kSeq (kReg (sS 1 (xK nils) (sS 2 (xK (bool false)) sEnd)))
 (kSeq (kReg (sV (oLenL (xT 0)) (sV (oMm false (xL 0) [(ki 16384)]) (sH (oMksl 210 1 [nils] (ki 0) (xL 0)) (sS 8 (xL 0) sEnd)))))
 (kSeq (kSeq (kReg (sS 6 (xT 0) (sV (oLenL (xT 6)) (sS 3 (xL 0) (sS 4 (ki 0) sEnd)))))
 (kBlock 0 (kLoop (kSeq (kReg (sV (oBin .lss .no (xT 4) (xT 3)) (sS 5 (xL 0) sEnd)))
 (kSeq (kCond (xT 5) kSkip
 (kExit 0))
 (kSeq (kBlock 1 (kSeq (kReg (sV (oIaddr 1 (xT 6) (xT 4)) (sV (oLoad (xL 0)) (sS 7 (xL 0) sEnd))))
 (kSeq (kRegC (fun k => (sV (oLenL (xT 0)) (sV (oBin .gtr .no (xL 0) (ki 16384)) (sG (xL 0) false (sV (oMov (xT 7))) (sG (xL 1) false (sV (oLenL (xL 0))) (sG (xL 2) false (sV (oBin .gtr .no (xL 0) (ki 64))) (sV (oPick (xL 3) (xK (bool true)) (xL 0)) k))))))) (xL 0) (kSeq (kReg (sS 1 (xK nils) (sS 2 (xK (bool false)) sEnd)))
 kRet)
 kSkip)
 (kSeq (kReg (sV (oMov (xT 7)) (sC (cFn 334) [(xL 0)] (sS 7 (xL 0) sEnd))))
 (kSeq (kReg (sC (cFn 255) [(xT 7)] sEnd))
 (kReg (sV (oMov (xT 8)) (sH (oBsl 210 1 1 [nils] [(0, 1, (xT 7))]) (sH (oApp 210 1 (xL 1) (xL 0)) (sS 8 (xL 0) sEnd))))))))))
 (kReg (sV (oBin .add .no (xT 4) (ki 1)) (sS 4 (xL 0) sEnd)))))))))
 (kSeq (kReg (sS 1 (xT 8) (sS 2 (xK (bool true)) sEnd)))
 kRet))))
theorem t281 : FF d281 Tryz.f281 a281 [(.t 1), (.t 2)] := ff Tryz.func281 (by kernel_rfl)
def x281 : XFn := .go a281 1 pd8 [(.t 1), (.t 2)]
def d282 : FD := ⟨282, 2, [4]⟩
def a282 : CodeF := (kSeq (kReg (sS 2 (xK nils) sEnd))
 (kSeq (kReg (sV (oLenS (xT 1)) (sV (oConv .u64 (xL 0)) (sC (cFn 127) [(xT 0), (xL 0)] (sH (oApps 5 (xL 0) (xT 1)) (sC (cFn 196) [(xL 0)] (sS 2 (xL 0) sEnd)))))))
 kRet))
theorem t282 : FF d282 Tryz.f282 a282 [(.t 2)] := ff Tryz.func282 (by kernel_rfl)
def x282 : XFn := .go a282 2 pd1 [(.t 2)]
def d283 : FD := ⟨283, 2, [4, 5, 6, 8, 7, 9]⟩
def a283 : CodeF := (kSeq (kReg (sS 2 (ki 0) (sS 3 (xK (bool false)) sEnd)))
 (kSeq (kReg (sV (oLenL (xT 0)) (sS 4 (xL 0) sEnd)))
 (kSeq (kReg (sS 6 (ki 0) (sS 5 (xT 4) sEnd)))
 (kSeq (kBlock 0 (kLoop (kSeq (kRegC (fun k => (sV (oBin .lss .no (xT 6) (xT 5)) k)) (xL 0) kSkip
 (kExit 0))
 (kBlock 1 (kSeq (kReg (sV (oBin .add .no (xT 6) (xT 5)) (sV (oConv .u64 (xL 0)) (sV (oBin .shr .no (xL 0) (xK (int .u64 (.ofNat 1)))) (sV (oConv .i64 (xL 0)) (sS 7 (xL 0) sEnd))))))
 (kRegC (fun k => (sV (oIaddr 1 (xT 0) (xT 7)) (sV (oLoad (xL 0)) (sC (cFn 335) [(xL 0), (xT 1)] k)))) (xL 0) (kReg (sV (oBin .add .no (xT 7) (ki 1)) (sS 6 (xL 0) sEnd)))
 (kReg (sS 5 (xT 7) sEnd))))))))
 (kSeq (kReg (sV (oBin .lss .no (xT 6) (xT 4)) (sG (xL 0) true (sV (oMov (xT 0))) (sG (xL 1) true (sV (oMov (xT 6))) (sG (xL 2) true (sV (oIaddr 1 (xL 1) (xL 0))) (sG (xL 3) true (sV (oLoad (xL 0))) (sG (xL 4) true (sV (oMov (xT 1))) (sG (xL 5) true (sV (oBin .eql .no (xL 1) (xL 0))) (sG (xL 6) true (sV (oMov (xL 0))) (sG (xL 0) false (sV (oMov (xT 0))) (sG (xL 1) false (sV (oMov (xT 6))) (sG (xL 2) false (sV (oIaddr 1 (xL 1) (xL 0))) (sG (xL 3) false (sV (oLoad (xL 0))) (sG (xL 4) false (sC (cFn 336) [(xL 0)]) (sG (xL 5) false (sV (oMov (xL 0))) (sG (xL 0) true (sV (oMov (xT 1))) (sG (xL 1) true (sC (cFn 336) [(xL 0)]) (sG (xL 8) false (sV (oPick (xL 2) (xL 0) (xK (bool false)))) (sG (xL 16) true (sV (oPick (xL 9) (xK (bool true)) (xL 0))) (sV (oPick (xL 17) (xL 0) (xK (bool false))) (sS 2 (xT 6) (sS 3 (xL 0) sEnd))))))))))))))))))))))
 kRet)))))
theorem t283 : FF d283 Tryz.f283 a283 [(.t 2), (.t 3)] := ff Tryz.func283 (by kernel_rfl)
def x283 : XFn := .go a283 2 pd6 [(.t 2), (.t 3)]
def d284 : FD := ⟨284, 1, [2, 19, 20, 21, 18, 8, 7, 4, 5, 6, 3]⟩
def a284 : CodeF := (kSeq (kReg (sS 1 (xK nils) sEnd))
 (kSeq (kReg (sV (oLenL (xT 0)) (sV (oConv .u64 (xL 0)) (sC (cFn 127) [(xK nils), (xL 0)] (sS 11 (xL 0) sEnd)))))
 (kSeq (kReg (sV (oLenL (xT 0)) (sV (oBin .add .no (xL 0) (ki 7)) (sV (oBin .quo .no (xL 0) (ki 8)) (sH (oMksl 5 1 [(int .u8 (.ofNat 0))] (xL 0) (xL 0)) (sS 8 (xL 0) sEnd))))))
 (kSeq (kReg (sS 9 (xK nils) (sS 10 (xK nils) sEnd)))
 (kSeq (kSeq (kReg (sS 5 (xT 0) (sV (oLenL (xT 5)) (sS 2 (xL 0) (sS 3 (ki 0) sEnd)))))
 (kBlock 0 (kLoop (kSeq (kReg (sV (oBin .lss .no (xT 3) (xT 2)) (sS 4 (xL 0) sEnd)))
 (kSeq (kCond (xT 4) kSkip
 (kExit 0))
 (kSeq (kBlock 1 (kSeq (kReg (sV (oIaddr 1 (xT 5) (xT 3)) (sV (oLoad (xL 0)) (sS 7 (xT 3) (sS 6 (xL 0) sEnd)))))
 (kRegC (fun k => (sV (oLenL (xT 6)) (sV (oBin .gtr .no (xL 0) (ki 0)) k))) (xL 0) (kSeq (kDraw [(.v (oMov (xT 8)), none), (.v (oMov (xT 7)), none), (.v (oBin .quo .no (xL 0) (ki 8)), none), (.v (oIaddr 1 (xL 2) (xL 0)), none), (.v (oLoad (xL 0)), none), (.v (oMov (xT 7)), none), (.v (oBin .rem .no (xL 0) (ki 8)), none), (.v (oBin .shl .no (xK (int .u8 (.ofNat 1))) (xL 0)), none), (.v (oBin .or .no (xL 3) (xL 0)), none), (.v (oIaddr 1 (xL 8) (xL 6)), none), (.h (oStore 1 (xL 0) (xL 1)), none)] 0 [none, none, none, none, none, none, none, none, none, none, none, none] [])
 (kSeq (kReg (sV (oMov (xT 9)) (sV (oLenL (xT 6)) (sV (oBin .sub .no (xL 0) (ki 1)) (sH (oBsl 2 1 1 [(int .i64 (.ofNat 0))] [(0, 1, (xL 0))]) (sH (oApp 2 1 (xL 3) (xL 0)) (sS 9 (xL 0) sEnd)))))))
 (kReg (sV (oMov (xT 10)) (sH (oApp 2 1 (xL 0) (xT 6)) (sS 10 (xL 0) sEnd))))))
 kSkip)))
 (kReg (sV (oBin .add .no (xT 3) (ki 1)) (sS 3 (xL 0) sEnd)))))))))
 (kSeq (kReg (sV (oMov (xT 11)) (sH (oApp 5 1 (xL 0) (xT 8)) (sS 11 (xL 0) sEnd))))
 (kSeq (kReg (sV (oMov (xT 11)) (sC (cFn 128) [(xT 9)] (sH (oApp 5 1 (xL 1) (xL 0)) (sS 11 (xL 0) sEnd)))))
 (kSeq (kReg (sC (cFn 128) [(xT 10)] (sH (oApp 5 1 (xT 11) (xL 0)) (sS 1 (xL 0) sEnd))))
 kRet))))))))
theorem t284 : FF d284 Tryz.f284 a284 [(.t 1)] := ff Tryz.func284 (by kernel_rfl)
def x284 : XFn := .go a284 1 pd11 [(.t 1)]
def d288 : FD := ⟨288, 2, [4]⟩
def a288 : CodeF := (kSeq (kReg (sS 2 (xK nils) sEnd))
 (kSeq (kRegC (fun k => (sV (oBin .lss .no (xT 1) (ki 0)) k)) (xL 0) (kReg (sV (oMkif 9 (xK (str [99, 97, 110, 110, 111, 116, 32, 98, 101, 32, 110, 101, 103, 97, 116, 105, 118, 101]))) (sPan (xL 0))))
 kSkip)
 (kSeq (kSeq (kReg (sV (oMov (xT 1)) (sV (oCap (xT 0)) (sV (oLenL (xT 0)) (sV (oBin .sub .no (xL 1) (xL 0)) (sV (oBin .sub .no (xL 3) (xL 0)) (sS 1 (xL 0) sEnd)))))))
 (kRegC (fun k => (sV (oBin .gtr .no (xT 1) (ki 0)) k)) (xL 0) (kReg (sV (oMov (xT 0)) (sV (oMov (xT 0)) (sV (oCap (xL 0)) (sV (oSlc 1 (xL 2) none (some (xL 0)) none) (sH (oAppm 5 1 [(int .u8 (.ofNat 0))] (xL 0) (xT 1)) (sV (oMov (xT 0)) (sV (oLenL (xL 0)) (sV (oSlc 1 (xL 2) none (some (xL 0)) none) (sS 0 (xL 0) sEnd))))))))))
 kSkip))
 (kSeq (kReg (sS 2 (xT 0) sEnd))
 kRet))))
theorem t288 : FF d288 Tryz.f288 a288 [(.t 2)] := ff Tryz.func288 (by kernel_rfl)
def x288 : XFn := .go a288 2 pd1 [(.t 2)]
def d315 : FD := ⟨315, 3, [4]⟩
def a315 : CodeF := (kSeq (kReg (sS 3 (xK (bool false)) sEnd))
 (kSeq (kDraw [(.v (oLoad (xT 1)), none), (.v (oMov (xT 0)), none), (.v (oIaddr 1 (xL 1) (xL 0)), none), (.v (oLoad (xL 0)), none), (.v (oLoad (xT 2)), none), (.v (oBin .geq .no (xL 1) (xL 0)), none), (.v (oMov (xL 0)), none)] 0 [none, none, none, (some 0)] [])
 kRet))
theorem t315 : FF d315 Tryz.f315 a315 [(.t 3)] := ff Tryz.func315 (by kernel_rfl)
def x315 : XFn := .go a315 3 pd1 [(.t 3)]
def d316 : FD := ⟨316, 2, [3, 6, 5, 4]⟩
def a316 : CodeF := (kSeq (kReg (sS 2 (xK nils) sEnd))
 (kSeq (kReg (sV (oLoad (xT 1)) (sC (cFn 118) [(xL 0), (xT 0)] (sV (oExt 0 (xL 0)) (sV (oExt 1 (xL 1)) (sV (oExt 2 (xL 2)) (sS 5 (xL 2) (sS 4 (xL 1) (sS 3 (xL 0) sEnd)))))))))
 (kSeq (kRegC (fun k => (sV (oBin .neq .no (xT 3) (ki 0)) k)) (xL 0) (kSeq (kReg (sH (oStore 1 (xT 1) (xK nils)) sEnd))
 (kSeq (kReg (sS 2 (xK nils) sEnd))
 kRet))
 kSkip)
 (kSeq (kReg (sV (oLoad (xT 1)) (sV (oSlc 1 (xL 0) (some (xT 4)) none none) (sH (oStore 1 (xT 1) (xL 0)) sEnd))))
 (kSeq (kReg (sS 2 (xT 5) sEnd))
 kRet)))))
theorem t316 : FF d316 Tryz.f316 a316 [(.t 2)] := ff Tryz.func316 (by kernel_rfl)
def x316 : XFn := .go a316 2 pd4 [(.t 2)]
def d317 : FD := ⟨317, 4, [10, 8, 12, 11, 9, 87, 13, 15, 14, 17, 16, 18]⟩
def a317 : CodeF := (kSeq (kReg (sS 5 (xK (bool true)) sEnd))
 (kSeq (kReg (sS 8 (xK (bool true)) sEnd))
 (kBlock 0 (kLoop (kBlock 1 (kSeq (kReg (sV (oBin .sub .no (xT 2) (xT 1)) (sS 4 (xL 0) sEnd)))
 (kSeq (kRegC (fun k => (sV (oBin .leq .no (xT 4) (ki 12)) k)) (xL 0) (kSeq (kReg (sC (cFn 364) [(xT 0), (xT 1), (xT 2)] sEnd))
 kRet)
 kSkip)
 (kSeq (kRegC (fun k => (sV (oBin .eql .no (xT 3) (ki 0)) k)) (xL 0) (kSeq (kReg (sC (cFn 365) [(xT 0), (xT 1), (xT 2)] sEnd))
 kRet)
 kSkip)
 (kSeq (kRegC (fun k => (sV (oUn .not (xT 5)) k)) (xL 0) (kSeq (kReg (sC (cFn 366) [(xT 0), (xT 1), (xT 2)] sEnd))
 (kReg (sV (oMov (xT 3)) (sV (oBin .sub .no (xL 0) (ki 1)) (sS 3 (xL 0) sEnd)))))
 kSkip)
 (kSeq (kReg (sC (cFn 367) [(xT 0), (xT 1), (xT 2)] (sV (oExt 0 (xL 0)) (sV (oExt 1 (xL 1)) (sS 7 (xL 1) (sS 6 (xL 0) sEnd))))))
 (kSeq (kRegC (fun k => (sV (oBin .eql .no (xT 6) (ki 2)) k)) (xL 0) (kSeq (kReg (sC (cFn 368) [(xT 0), (xT 1), (xT 2)] sEnd))
 (kSeq (kReg (sV (oBin .sub .no (xT 2) (ki 1)) (sV (oMov (xT 7)) (sV (oBin .sub .no (xL 0) (xT 1)) (sV (oBin .sub .no (xL 2) (xL 0)) (sS 7 (xL 0) sEnd))))))
 (kReg (sS 6 (ki 1) sEnd))))
 kSkip)
 (kSeq (kRegC (fun k => (sG (xT 5) true (sV (oMov (xT 8))) (sV (oPick (xT 5) (xL 0) (xK (bool false))) (sG (xL 0) true (sV (oMov (xT 6))) (sG (xL 1) true (sV (oBin .eql .no (xL 0) (ki 1))) (sV (oPick (xL 2) (xL 0) (xK (bool false))) k)))))) (xL 0) (kRegC (fun k => (sC (cFn 369) [(xT 0), (xT 1), (xT 2)] k)) (xL 0) kRet
 kSkip)
 kSkip)
 (kSeq (kSeq (kDraw [(.v (oMov (xT 1)), none), (.v (oBin .gtr .no (xL 0) (ki 0)), none), (.v (oMov (xL 0)), none), (.v (oMov (xT 0)), (some ((xL 0), true))), (.v (oMov (xT 1)), (some ((xL 1), true))), (.v (oBin .sub .no (xL 0) (ki 1)), (some ((xL 2), true))), (.v (oIaddr 1 (xL 2) (xL 0)), (some ((xL 3), true))), (.v (oLoad (xL 0)), (some ((xL 4), true))), (.v (oMov (xT 0)), (some ((xL 5), true))), (.v (oMov (xT 7)), (some ((xL 6), true))), (.v (oIaddr 1 (xL 1) (xL 0)), (some ((xL 7), true))), (.v (oLoad (xL 0)), (some ((xL 8), true))), (.c (cFn 335) [(xL 4), (xL 0)], (some ((xL 9), true))), (.v (oUn .not (xL 0)), (some ((xL 10), true))), (.v (oPick (xL 11) (xL 0) (xK (bool false))), none)] 0 [none, none, none, none, none, none, none, none, none, (some 0), none, none, none, none, none, none] [])
 (kCond (xT 9) (kSeq (kReg (sC (cFn 370) [(xT 0), (xT 1), (xT 2), (xT 7)] (sS 10 (xL 0) sEnd)))
 (kSeq (kReg (sS 1 (xT 10) sEnd))
 (kExit 1)))
 kSkip))
 (kSeq (kReg (sC (cFn 371) [(xT 0), (xT 1), (xT 2), (xT 7)] (sV (oExt 0 (xL 0)) (sV (oExt 1 (xL 1)) (sS 12 (xL 1) (sS 11 (xL 0) sEnd))))))
 (kSeq (kReg (sS 8 (xT 11) sEnd))
 (kSeq (kReg (sV (oBin .sub .no (xT 12) (xT 1)) (sV (oBin .sub .no (xT 2) (xT 12)) (sS 14 (xL 1) (sS 13 (xL 0) sEnd)))))
 (kSeq (kReg (sV (oBin .quo .no (xT 4) (ki 8)) (sS 15 (xL 0) sEnd)))
 (kRegC (fun k => (sV (oBin .lss .no (xT 14) (xT 13)) k)) (xL 0) (kSeq (kReg (sV (oBin .geq .no (xT 14) (xT 15)) (sS 5 (xL 0) sEnd)))
 (kSeq (kReg (sC (cFn 317) [(xT 0), (xT 1), (xT 12), (xT 3)] sEnd))
 (kReg (sV (oBin .add .no (xT 12) (ki 1)) (sS 1 (xL 0) sEnd)))))
 (kSeq (kReg (sV (oBin .geq .no (xT 13) (xT 15)) (sS 5 (xL 0) sEnd)))
 (kSeq (kReg (sV (oBin .add .no (xT 12) (ki 1)) (sC (cFn 317) [(xT 0), (xL 0), (xT 2), (xT 3)] sEnd)))
 (kReg (sS 2 (xT 12) sEnd))))))))))))))))))))))
theorem t317 : FF d317 Tryz.f317 a317 [] := ff Tryz.func317 (by kernel_rfl)
def x317 : XFn := .go a317 4 pd12 []
def d319 : FD := ⟨319, 2, [4, 6, 7, 2, 5]⟩
def a319 : CodeF := (kSeq (kReg (sH (oBox 210 1 (xT 0)) (sS 5 (xL 0) (sS 2 (xK nils) sEnd))))
 (kSeq (kSeq (kReg (sS 3 (xT 1) sEnd))
 (kBlock 0 (kRf 16782330 [4] (xT 3))))
 (kSeq (kReg (sV (oLoad (xT 5)) (sS 2 (xL 0) sEnd)))
 kRet)))
theorem t319 : FF d319 Tryz.f319 a319 [(.t 2)] := ff Tryz.func319 (by kernel_rfl)
def x319 : XFn := .go a319 2 pd5 [(.t 2)]
def r319x0 : CodeF × CodeF := ((kReg (sS 6 (xT 4) sEnd)),
 (kBlock 1 (kReg (sV (oLoad (xT 5)) (sH (oBsl 9 1 1 [(str [])] [(0, 1, (xT 6))]) (sH (oApp 9 1 (xL 1) (xL 0)) (sH (oStore 1 (xT 5) (xL 0)) sEnd)))))))
theorem u319x0 : RfFact Tryz.prog d319 Tryz.f319 16782330 r319x0 := ⟨Tryz.func319, by kernel_rfl⟩
def d320 : FD := ⟨320, 2, [4, 6, 7, 2, 5]⟩
def a320 : CodeF := (kSeq (kReg (sH (oBox 32 1 (xT 0)) (sS 5 (xL 0) (sS 2 (xK nils) sEnd))))
 (kSeq (kSeq (kReg (sS 3 (xT 1) sEnd))
 (kBlock 0 (kRf 16782346 [4] (xT 3))))
 (kSeq (kReg (sV (oLoad (xT 5)) (sS 2 (xL 0) sEnd)))
 kRet)))
theorem t320 : FF d320 Tryz.f320 a320 [(.t 2)] := ff Tryz.func320 (by kernel_rfl)
def x320 : XFn := .go a320 2 pd5 [(.t 2)]
def r320x0 : CodeF × CodeF := ((kReg (sS 6 (xT 4) sEnd)),
 (kBlock 1 (kReg (sV (oLoad (xT 5)) (sH (oBsl 3 1 1 [(int .i64 (.ofNat 0))] [(0, 1, (xT 6))]) (sH (oApp 3 1 (xL 1) (xL 0)) (sH (oStore 1 (xT 5) (xL 0)) sEnd)))))))
theorem u320x0 : RfFact Tryz.prog d320 Tryz.f320 16782346 r320x0 := ⟨Tryz.func320, by kernel_rfl⟩
def d321 : FD := ⟨321, 4, [10, 8, 12, 11, 9, 87, 13, 15, 14, 17, 16, 18]⟩
def a321 : CodeF := (kSeq (kReg (sS 5 (xK (bool true)) sEnd))
 (kSeq (kReg (sS 8 (xK (bool true)) sEnd))
 (kBlock 0 (kLoop (kBlock 1 (kSeq (kReg (sV (oBin .sub .no (xT 2) (xT 1)) (sS 4 (xL 0) sEnd)))
 (kSeq (kRegC (fun k => (sV (oBin .leq .no (xT 4) (ki 12)) k)) (xL 0) (kSeq (kReg (sC (cFn 381) [(xT 0), (xT 1), (xT 2)] sEnd))
 kRet)
 kSkip)
 (kSeq (kRegC (fun k => (sV (oBin .eql .no (xT 3) (ki 0)) k)) (xL 0) (kSeq (kReg (sC (cFn 382) [(xT 0), (xT 1), (xT 2)] sEnd))
 kRet)
 kSkip)
 (kSeq (kRegC (fun k => (sV (oUn .not (xT 5)) k)) (xL 0) (kSeq (kReg (sC (cFn 383) [(xT 0), (xT 1), (xT 2)] sEnd))
 (kReg (sV (oMov (xT 3)) (sV (oBin .sub .no (xL 0) (ki 1)) (sS 3 (xL 0) sEnd)))))
 kSkip)
 (kSeq (kReg (sC (cFn 384) [(xT 0), (xT 1), (xT 2)] (sV (oExt 0 (xL 0)) (sV (oExt 1 (xL 1)) (sS 7 (xL 1) (sS 6 (xL 0) sEnd))))))
 (kSeq (kRegC (fun k => (sV (oBin .eql .no (xT 6) (ki 2)) k)) (xL 0) (kSeq (kReg (sC (cFn 385) [(xT 0), (xT 1), (xT 2)] sEnd))
 (kSeq (kReg (sV (oBin .sub .no (xT 2) (ki 1)) (sV (oMov (xT 7)) (sV (oBin .sub .no (xL 0) (xT 1)) (sV (oBin .sub .no (xL 2) (xL 0)) (sS 7 (xL 0) sEnd))))))
 (kReg (sS 6 (ki 1) sEnd))))
 kSkip)
 (kSeq (kRegC (fun k => (sG (xT 5) true (sV (oMov (xT 8))) (sV (oPick (xT 5) (xL 0) (xK (bool false))) (sG (xL 0) true (sV (oMov (xT 6))) (sG (xL 1) true (sV (oBin .eql .no (xL 0) (ki 1))) (sV (oPick (xL 2) (xL 0) (xK (bool false))) k)))))) (xL 0) (kRegC (fun k => (sC (cFn 386) [(xT 0), (xT 1), (xT 2)] k)) (xL 0) kRet
 kSkip)
 kSkip)
 (kSeq (kSeq (kDraw [(.v (oMov (xT 1)), none), (.v (oBin .gtr .no (xL 0) (ki 0)), none), (.v (oMov (xL 0)), none), (.v (oMov (xT 0)), (some ((xL 0), true))), (.v (oMov (xT 1)), (some ((xL 1), true))), (.v (oBin .sub .no (xL 0) (ki 1)), (some ((xL 2), true))), (.v (oIaddr 1 (xL 2) (xL 0)), (some ((xL 3), true))), (.v (oLoad (xL 0)), (some ((xL 4), true))), (.v (oMov (xT 0)), (some ((xL 5), true))), (.v (oMov (xT 7)), (some ((xL 6), true))), (.v (oIaddr 1 (xL 1) (xL 0)), (some ((xL 7), true))), (.v (oLoad (xL 0)), (some ((xL 8), true))), (.c (cFn 387) [(xL 4), (xL 0)], (some ((xL 9), true))), (.v (oUn .not (xL 0)), (some ((xL 10), true))), (.v (oPick (xL 11) (xL 0) (xK (bool false))), none)] 0 [none, none, none, none, none, none, none, none, none, (some 0), none, none, none, none, none, none] [])
 (kCond (xT 9) (kSeq (kReg (sC (cFn 388) [(xT 0), (xT 1), (xT 2), (xT 7)] (sS 10 (xL 0) sEnd)))
 (kSeq (kReg (sS 1 (xT 10) sEnd))
 (kExit 1)))
 kSkip))
 (kSeq (kReg (sC (cFn 389) [(xT 0), (xT 1), (xT 2), (xT 7)] (sV (oExt 0 (xL 0)) (sV (oExt 1 (xL 1)) (sS 12 (xL 1) (sS 11 (xL 0) sEnd))))))
 (kSeq (kReg (sS 8 (xT 11) sEnd))
 (kSeq (kReg (sV (oBin .sub .no (xT 12) (xT 1)) (sV (oBin .sub .no (xT 2) (xT 12)) (sS 14 (xL 1) (sS 13 (xL 0) sEnd)))))
 (kSeq (kReg (sV (oBin .quo .no (xT 4) (ki 8)) (sS 15 (xL 0) sEnd)))
 (kRegC (fun k => (sV (oBin .lss .no (xT 14) (xT 13)) k)) (xL 0) (kSeq (kReg (sV (oBin .geq .no (xT 14) (xT 15)) (sS 5 (xL 0) sEnd)))
 (kSeq (kReg (sC (cFn 321) [(xT 0), (xT 1), (xT 12), (xT 3)] sEnd))
 (kReg (sV (oBin .add .no (xT 12) (ki 1)) (sS 1 (xL 0) sEnd)))))
 (kSeq (kReg (sV (oBin .geq .no (xT 13) (xT 15)) (sS 5 (xL 0) sEnd)))
 (kSeq (kReg (sV (oBin .add .no (xT 12) (ki 1)) (sC (cFn 321) [(xT 0), (xL 0), (xT 2), (xT 3)] sEnd)))
 (kReg (sS 2 (xT 12) sEnd))))))))))))))))))))))
theorem t321 : FF d321 Tryz.f321 a321 [] := ff Tryz.func321 (by kernel_rfl)
def x321 : XFn := .go a321 4 pd12 []
def d322 : FD := ⟨322, 1, [2, 3, 4]⟩
def a322 : CodeF := (kSeq (kReg (sS 1 (xK (int .u32 (.ofNat 0))) sEnd))
 (kSeq (kSeq (kReg (sS 2 (ki 0) sEnd))
 (kBlock 0 (kLoop (kSeq (kReg (sV (oBin .lss .no (xT 2) (ki 4)) (sS 3 (xL 0) sEnd)))
 (kSeq (kCond (xT 3) kSkip
 (kExit 0))
 (kSeq (kBlock 1 (kReg (sV (oMov (xT 0)) (sV (oBin .shr .no (xL 0) (xK (int .u64 (.ofNat 1)))) (sV (oMov (xT 0)) (sV (oBin .and .no (xL 0) (xK (int .u32 (.ofNat 1)))) (sV (oBin .mul .no (xK (int .u32 (.ofNat 3988292384))) (xL 0)) (sV (oBin .xor .no (xL 3) (xL 0)) (sS 0 (xL 0) sEnd)))))))))
 (kReg (sV (oBin .add .no (xT 2) (ki 1)) (sS 2 (xL 0) sEnd)))))))))
 (kSeq (kReg (sS 1 (xT 0) sEnd))
 kRet)))
theorem t322 : FF d322 Tryz.f322 a322 [(.t 1)] := ff Tryz.func322 (by kernel_rfl)
def x322 : XFn := .go a322 1 pd3 [(.t 1)]
def d323 : FD := ⟨323, 3, [4, 5, 6]⟩
def a323 : CodeF := (kSeq (kReg (sS 3 (xK (str [])) sEnd))
 (kSeq (kRegC (fun k => (sV (oBin .eql .no (xT 0) (ki 0)) k)) (xL 0) (kSeq (kReg (sV (oLoad (xT 1)) (sC (cFn 162) [(xL 0), (ki 4096)] (sS 3 (xL 0) sEnd))))
 kRet)
 kSkip)
 (kSeq (kDraw [(.v (oLoad (xT 1)), none), (.v (oLoad (xT 2)), none), (.v (oMov (xT 0)), none), (.v (oBin .sub .no (xL 0) (ki 1)), none), (.v (oIaddr 1 (xL 2) (xL 0)), none), (.v (oLoad (xL 0)), none), (.v (oLenS (xL 0)), none), (.c (cFn 117) [(xL 6), (xL 0)], none), (.v (oMov (xL 0)), none)] 0 [none, none, none, none, (some 0), none] [])
 (kSeq (kDraw [(.v (oLoad (xT 2)), none), (.v (oMov (xT 0)), none), (.v (oBin .sub .no (xL 0) (ki 1)), none), (.v (oIaddr 1 (xL 2) (xL 0)), none), (.v (oLoad (xL 0)), none), (.v (oMov (xT 4)), none), (.v (oSlcs (xL 1) none (some (xL 0))), none), (.v (oLoad (xT 1)), none), (.c (cFn 162) [(xL 0), (ki 4096)], none), (.v (oBin .add .no (xL 2) (xL 0)), none), (.v (oMov (xL 0)), none)] 0 [none, none, none, none, none, (some 0)] [(10, 2), (6, 2)])
 (kSeq (kRegC (fun k => (sV (oLoad (xT 1)) (sC (cFn 122) [(xL 0)] (sV (oBin .neq .no (xL 0) (ki 0)) (sG (xL 0) false (sV (oMov (xT 5))) (sG (xL 1) false (sV (oLoad (xT 2))) (sG (xL 2) false (sV (oMov (xT 0))) (sG (xL 3) false (sV (oBin .sub .no (xL 0) (ki 1))) (sG (xL 4) false (sV (oIaddr 1 (xL 2) (xL 0))) (sG (xL 5) false (sV (oLoad (xL 0))) (sG (xL 6) false (sV (oBin .leq .no (xL 5) (xL 0))) (sV (oPick (xL 7) (xK (bool true)) (xL 0)) (sG (xL 0) false (sV (oLoad (xT 2))) (sG (xL 1) false (sV (oMov (xT 0))) (sG (xL 2) false (sV (oBin .sub .no (xL 0) (ki 1))) (sG (xL 3) false (sV (oIaddr 1 (xL 2) (xL 0))) (sG (xL 4) false (sV (oLoad (xL 0))) (sG (xL 5) false (sV (oMov (xT 5))) (sG (xL 6) false (sC (cFn 324) [(xL 1), (xL 0)]) (sG (xL 7) false (sV (oMov (xT 4))) (sG (xL 8) false (sV (oBin .neq .no (xL 1) (xL 0))) (sV (oPick (xL 9) (xK (bool true)) (xL 0)) (sG (xL 0) false (sV (oMov (xT 5))) (sG (xL 1) false (sV (oLenS (xL 0))) (sG (xL 2) false (sV (oBin .gtr .no (xL 0) (ki 4096))) (sV (oPick (xL 3) (xK (bool true)) (xL 0)) k)))))))))))))))))))))))))) (xL 0) (kSeq (kReg (sS 3 (xK (str [])) sEnd))
 kRet)
 kSkip)
 (kSeq (kReg (sS 3 (xT 5) sEnd))
 kRet))))))
theorem t323 : FF d323 Tryz.f323 a323 [(.t 3)] := ff Tryz.func323 (by kernel_rfl)
def x323 : XFn := .go a323 3 pd3 [(.t 3)]
def d324 : FD := ⟨324, 2, [4, 5, 24]⟩
def a324 : CodeF := (kSeq (kReg (sS 2 (ki 0) sEnd))
 (kSeq (kReg (sS 3 (ki 0) sEnd))
 (kSeq (kBlock 0 (kLoop (kSeq (kSeq (kDraw [(.v (oMov (xT 3)), none), (.v (oMov (xT 0)), none), (.v (oLenS (xL 0)), none), (.v (oBin .lss .no (xL 2) (xL 0)), none), (.v (oMov (xL 0)), none), (.v (oMov (xT 3)), (some ((xL 0), true))), (.v (oMov (xT 1)), (some ((xL 1), true))), (.v (oLenS (xL 0)), (some ((xL 2), true))), (.v (oBin .lss .no (xL 2) (xL 0)), (some ((xL 3), true))), (.v (oPick (xL 4) (xL 0) (xK (bool false))), none), (.v (oMov (xL 0)), none), (.v (oMov (xT 0)), (some ((xL 0), true))), (.v (oMov (xT 3)), (some ((xL 1), true))), (.v (oIdx (xL 1) (xL 0)), (some ((xL 2), true))), (.v (oMov (xT 1)), (some ((xL 3), true))), (.v (oMov (xT 3)), (some ((xL 4), true))), (.v (oIdx (xL 1) (xL 0)), (some ((xL 5), true))), (.v (oBin .eql .no (xL 3) (xL 0)), (some ((xL 6), true))), (.v (oPick (xL 7) (xL 0) (xK (bool false))), none)] 0 [none, none, none, none, (some 0)] [])
 (kCond (xT 4) kSkip
 (kExit 0)))
 (kBlock 1 (kReg (sV (oMov (xT 3)) (sV (oBin .add .no (xL 0) (ki 1)) (sS 3 (xL 0) sEnd))))))))
 (kSeq (kReg (sS 2 (xT 3) sEnd))
 kRet))))
theorem t324 : FF d324 Tryz.f324 a324 [(.t 2)] := ff Tryz.func324 (by kernel_rfl)
def x324 : XFn := .go a324 2 pd3 [(.t 2)]
def d325 : FD := ⟨325, 1, [2]⟩
def a325 : CodeF := (kSeq (kReg (sS 1 (xK (int .u64 (.ofNat 0))) sEnd))
 (kSeq (kReg (sV (oMkfn 189 [(xT 0)] []) (sC (cFn 252) [(xT 0), (xL 0)] (sS 1 (xL 0) sEnd))))
 kRet))
theorem t325 : FF d325 Tryz.f325 a325 [(.t 1)] := ff Tryz.func325 (by kernel_rfl)
def x325 : XFn := .go a325 1 pd1 [(.t 1)]
def d326 : FD := ⟨326, 1, [2, 8, 9, 10, 7, 6, 4, 3]⟩
def a326 : CodeF := (kSeq (kReg (sS 1 (xK (bool false)) sEnd))
 (kSeq (kReg (sS 8 (xK (int .i64 (.negSucc 0))) (sS 7 (ki 0) sEnd)))
 (kSeq (kSeq (kReg (sS 5 (xT 0) (sV (oLenL (xT 5)) (sS 2 (xL 0) (sS 3 (ki 0) sEnd)))))
 (kBlock 0 (kLoop (kSeq (kReg (sV (oBin .lss .no (xT 3) (xT 2)) (sS 4 (xL 0) sEnd)))
 (kSeq (kCond (xT 4) kSkip
 (kExit 0))
 (kSeq (kBlock 1 (kSeq (kReg (sV (oIaddr 2 (xT 5) (xT 3)) (sV (oLoadN 2 (xL 0)) (sH (oAlloc 273 2 [(int .i64 (.ofNat 0)), nils]) (sS 6 (xL 0) (sH (oStore 2 (xT 6) (xL 1)) sEnd))))))
 (kSeq (kReg (sV (oMov (xT 7)) (sV (oFaddr 1 (xT 6)) (sV (oLoad (xL 0)) (sV (oLenL (xL 0)) (sV (oBin .add .no (xL 3) (xL 0)) (sS 7 (xL 0) sEnd)))))))
 (kSeq (kRegC (fun k => (sV (oFaddr 0 (xT 6)) (sV (oLoad (xL 0)) (sV (oBin .leq .no (xL 0) (xT 8)) (sG (xL 0) false (sV (oFaddr 0 (xT 6))) (sG (xL 1) false (sV (oLoad (xL 0))) (sG (xL 2) false (sV (oBin .geq .no (xL 0) (ki 16384))) (sV (oPick (xL 3) (xK (bool true)) (xL 0)) (sG (xL 0) false (sV (oFaddr 1 (xT 6))) (sG (xL 1) false (sV (oLoad (xL 0))) (sG (xL 2) false (sV (oLenL (xL 0))) (sG (xL 3) false (sV (oBin .eql .no (xL 0) (ki 0))) (sV (oPick (xL 4) (xK (bool true)) (xL 0)) (sG (xL 0) false (sV (oMov (xT 7))) (sG (xL 1) false (sV (oBin .gtr .no (xL 0) (ki 1048576))) (sV (oPick (xL 2) (xK (bool true)) (xL 0)) (sG (xL 0) false (sV (oFaddr 1 (xT 6))) (sG (xL 1) false (sV (oLoad (xL 0))) (sG (xL 2) false (sC (cFn 390) [(xL 0)]) (sG (xL 3) false (sV (oUn .not (xL 0))) (sV (oPick (xL 4) (xK (bool true)) (xL 0)) (sG (xL 0) false (sV (oFaddr 1 (xT 6))) (sG (xL 1) false (sV (oLoad (xL 0))) (sG (xL 2) false (sV (oIaddr 1 (xL 0) (ki 0))) (sG (xL 3) false (sV (oLoad (xL 0))) (sG (xL 4) false (sV (oBin .lss .no (xL 0) (ki 0))) (sV (oPick (xL 5) (xK (bool true)) (xL 0)) (sG (xL 0) false (sV (oFaddr 1 (xT 6))) (sG (xL 1) false (sV (oLoad (xL 0))) (sG (xL 2) false (sV (oFaddr 1 (xT 6))) (sG (xL 3) false (sV (oLoad (xL 0))) (sG (xL 4) false (sV (oLenL (xL 0))) (sG (xL 5) false (sV (oBin .sub .no (xL 0) (ki 1))) (sG (xL 6) false (sV (oIaddr 1 (xL 4) (xL 0))) (sG (xL 7) false (sV (oLoad (xL 0))) (sG (xL 8) false (sV (oBin .gtr .no (xL 0) (ki 1048576))) (sV (oPick (xL 9) (xK (bool true)) (xL 0)) k))))))))))))))))))))))))))))))))))))) (xL 0) (kSeq (kReg (sS 1 (xK (bool false)) sEnd))
 kRet)
 kSkip)
 (kReg (sV (oFaddr 0 (xT 6)) (sV (oLoad (xL 0)) (sS 8 (xL 0) sEnd))))))))
 (kReg (sV (oBin .add .no (xT 3) (ki 1)) (sS 3 (xL 0) sEnd)))))))))
 (kSeq (kReg (sS 1 (xK (bool true)) sEnd))
 kRet))))
theorem t326 : FF d326 Tryz.f326 a326 [(.t 1)] := ff Tryz.func326 (by kernel_rfl)
def x326 : XFn := .go a326 1 pd8 [(.t 1)]
def d327 : FD := ⟨327, 2, [4, 3, 2]⟩
def a327 : CodeF := (kSeq (kReg (sH (oBox 267 1 (xT 0)) (sS 4 (xL 0) (sH (oBox 3 1 (xT 1)) (sS 3 (xL 0) (sS 2 (xK nilfunc) sEnd))))))
 (kSeq (kRegC (fun k => (sV (oLoad (xT 3)) (sV (oBin .lss .no (xL 0) (ki 1)) k))) (xL 0) (kReg (sV (oMkif 9 (xK (str [99, 97, 110, 110, 111, 116, 32, 98, 101, 32, 108, 101, 115, 115, 32, 116, 104, 97, 110, 32, 49]))) (sPan (xL 0))))
 kSkip)
 (kSeq (kReg (sV (oMkfn 391 [] [(xT 4), (xT 3)]) (sS 2 (xL 0) sEnd)))
 kRet)))
theorem t327 : FF d327 Tryz.f327 a327 [(.t 2)] := ff Tryz.func327 (by kernel_rfl)
def x327 : XFn := .go a327 2 pd3 [(.t 2)]
def d328 : FD := ⟨328, 2, [4, 14, 15, 16, 13, 9, 5, 6, 38, 39, 40, 37, 10, 12, 7]⟩
def a328 : CodeF := (kSeq (kReg (sS 2 (xK nils) sEnd))
 (kSeq (kReg (sS 8 (xK nils) (sS 9 (xK nils) (sS 16 (xK nils) sEnd))))
 (kSeq (kSeq (kReg (sS 6 (xT 0) (sV (oLenL (xT 6)) (sS 3 (xL 0) (sS 4 (ki 0) sEnd)))))
 (kBlock 0 (kLoop (kSeq (kReg (sV (oBin .lss .no (xT 4) (xT 3)) (sS 5 (xL 0) sEnd)))
 (kSeq (kCond (xT 5) kSkip
 (kExit 0))
 (kSeq (kBlock 1 (kSeq (kReg (sV (oIaddr 2 (xT 6) (xT 4)) (sV (oLoadN 2 (xL 0)) (sH (oAlloc 273 2 [(int .i64 (.ofNat 0)), nils]) (sS 7 (xL 0) (sH (oStore 2 (xT 7) (xL 1)) sEnd))))))
 (kSeq (kReg (sV (oMov (xT 8)) (sV (oFaddr 0 (xT 7)) (sV (oLoad (xL 0)) (sV (oBin .sub .no (xL 0) (xT 1)) (sV (oBin .sub .no (xL 0) (ki 1)) (sH (oBsl 2 1 1 [(int .i64 (.ofNat 0))] [(0, 1, (xL 0))]) (sH (oApp 2 1 (xL 5) (xL 0)) (sS 8 (xL 0) sEnd)))))))))
 (kSeq (kReg (sV (oFaddr 0 (xT 7)) (sV (oLoad (xL 0)) (sS 1 (xL 0) sEnd))))
 (kSeq (kReg (sV (oMov (xT 9)) (sV (oFaddr 1 (xT 7)) (sV (oLoad (xL 0)) (sV (oLenL (xL 0)) (sV (oBin .sub .no (xL 0) (ki 1)) (sH (oBsl 2 1 1 [(int .i64 (.ofNat 0))] [(0, 1, (xL 0))]) (sH (oApp 2 1 (xL 5) (xL 0)) (sS 9 (xL 0) sEnd)))))))))
 (kSeq (kReg (sS 14 (ki 0) sEnd))
 (kSeq (kReg (sV (oFaddr 1 (xT 7)) (sV (oLoad (xL 0)) (sS 13 (xL 0) (sV (oLenL (xT 13)) (sS 10 (xL 0) (sS 11 (ki 0) sEnd)))))))
 (kBlock 2 (kLoop (kSeq (kReg (sV (oBin .lss .no (xT 11) (xT 10)) (sS 12 (xL 0) sEnd)))
 (kSeq (kCond (xT 12) kSkip
 (kExit 2))
 (kSeq (kBlock 3 (kSeq (kReg (sV (oIaddr 1 (xT 13) (xT 11)) (sV (oLoad (xL 0)) (sS 15 (xL 0) sEnd))))
 (kSeq (kReg (sV (oMov (xT 16)) (sV (oBin .sub .no (xT 15) (xT 14)) (sH (oBsl 2 1 1 [(int .i64 (.ofNat 0))] [(0, 1, (xL 0))]) (sH (oApp 2 1 (xL 2) (xL 0)) (sS 16 (xL 0) sEnd))))))
 (kReg (sS 14 (xT 15) sEnd)))))
 (kReg (sV (oBin .add .no (xT 11) (ki 1)) (sS 11 (xL 0) sEnd)))))))))))))))
 (kReg (sV (oBin .add .no (xT 4) (ki 1)) (sS 4 (xL 0) sEnd)))))))))
 (kSeq (kReg (sC (cFn 128) [(xT 8)] (sC (cFn 128) [(xT 9)] (sC (cFn 128) [(xT 16)] (sH (oBsl 137 1 3 [nils] [(0, 1, (xL 2)), (1, 1, (xL 1)), (2, 1, (xL 0))]) (sC (cFn 222) [(xL 0)] (sS 2 (xL 0) sEnd)))))))
 kRet))))
theorem t328 : FF d328 Tryz.f328 a328 [(.t 2)] := ff Tryz.func328 (by kernel_rfl)
def x328 : XFn := .go a328 2 pd15 [(.t 2)]
def d329 : FD := ⟨329, 2, [4, 7, 8, 9, 5]⟩
def a329 : CodeF := (kSeq (kReg (sS 2 (ki 0) sEnd))
 (kSeq (kSeq (kReg (sV (oLenL (xT 0)) (sS 3 (xL 0) (sS 4 (ki 0) sEnd))))
 (kBlock 0 (kLoop (kSeq (kReg (sV (oBin .lss .no (xT 4) (xT 3)) (sS 5 (xL 0) sEnd)))
 (kSeq (kCond (xT 5) kSkip
 (kExit 0))
 (kSeq (kBlock 1 (kSeq (kReg (sS 6 (xT 4) sEnd))
 (kRegC (fun k => (sV (oIaddr 1 (xT 0) (xT 6)) (sV (oLoad (xL 0)) (sC (cVal (xT 1)) [(xL 0)] k)))) (xL 0) (kSeq (kReg (sS 2 (xT 6) sEnd))
 kRet)
 kSkip)))
 (kReg (sV (oBin .add .no (xT 4) (ki 1)) (sS 4 (xL 0) sEnd)))))))))
 (kSeq (kReg (sS 2 (xK (int .i64 (.negSucc 0))) sEnd))
 kRet)))
theorem t329 : FF d329 Tryz.f329 a329 [(.t 2)] := ff Tryz.func329 (by kernel_rfl)
def x329 : XFn := .go a329 2 pd5 [(.t 2)]
def d330 : FD := ⟨330, 1, [2]⟩
def a330 : CodeF := (kSeq (kReg (sS 1 (ki 0) sEnd))
 (kSeq (kRegC (fun k => (sV (oBin .eql .ptr (xT 0) (xK nilptr)) k)) (xL 0) (kSeq (kReg (sS 1 (ki 0) sEnd))
 kRet)
 kSkip)
 (kSeq (kReg (sV (oNilc (xT 0)) (sV (oFaddr 0 (xL 0)) (sV (oLoad (xL 0)) (sV (oLenL (xL 0)) (sS 1 (xL 0) sEnd))))))
 kRet)))
theorem t330 : FF d330 Tryz.f330 a330 [(.t 1)] := ff Tryz.func330 (by kernel_rfl)
def x330 : XFn := .go a330 1 pd1 [(.t 1)]
def d331 : FD := ⟨331, 2, [4, 15, 16, 17, 14, 7, 5]⟩
def a331 : CodeF := (kSeq (kReg (sS 2 (xK nils) sEnd))
 (kSeq (kRegC (fun k => (sV (oBin .eql .ptr (xT 0) (xK nilptr)) k)) (xL 0) (kSeq (kReg (sS 2 (xK nils) sEnd))
 kRet)
 kSkip)
 (kSeq (kReg (sS 8 (xK nils) sEnd))
 (kSeq (kSeq (kReg (sV (oNilc (xT 0)) (sV (oFaddr 0 (xL 0)) (sC (cFn 332) [(xL 0), (xT 1)] (sS 6 (xL 0) (sV (oLenL (xT 6)) (sS 3 (xL 0) (sS 4 (ki 0) sEnd))))))))
 (kBlock 0 (kLoop (kSeq (kReg (sV (oBin .lss .no (xT 4) (xT 3)) (sS 5 (xL 0) sEnd)))
 (kSeq (kCond (xT 5) kSkip
 (kExit 0))
 (kSeq (kBlock 1 (kSeq (kReg (sV (oIaddr 1 (xT 6) (xT 4)) (sV (oLoad (xL 0)) (sS 7 (xL 0) sEnd))))
 (kReg (sV (oMov (xT 8)) (sH (oBsl 3 1 1 [(int .i64 (.ofNat 0))] [(0, 1, (xT 7))]) (sH (oApp 3 1 (xL 1) (xL 0)) (sS 8 (xL 0) sEnd)))))))
 (kReg (sV (oBin .add .no (xT 4) (ki 1)) (sS 4 (xL 0) sEnd)))))))))
 (kSeq (kReg (sS 2 (xT 8) sEnd))
 kRet)))))
theorem t331 : FF d331 Tryz.f331 a331 [(.t 2)] := ff Tryz.func331 (by kernel_rfl)
def x331 : XFn := .go a331 2 pd7 [(.t 2)]
def d332 : FD := ⟨332, 2, [4, 5]⟩
def a332 : CodeF := (kSeq (kReg (sS 2 (xK nils) sEnd))
 (kSeq (kRegC (fun k => (sV (oBin .lss .no (xT 1) (ki 0)) (sG (xL 0) false (sV (oMov (xT 1))) (sG (xL 1) false (sV (oMov (xT 0))) (sG (xL 2) false (sC (cFn 330) [(xL 0)]) (sG (xL 3) false (sV (oBin .geq .no (xL 2) (xL 0))) (sV (oPick (xL 4) (xK (bool true)) (xL 0)) k))))))) (xL 0) (kSeq (kReg (sS 2 (xK nils) sEnd))
 kRet)
 kSkip)
 (kSeq (kReg (sS 3 (ki 0) sEnd))
 (kSeq (kRegC (fun k => (sV (oBin .gtr .no (xT 1) (ki 0)) k)) (xL 0) (kReg (sV (oNilc (xT 0)) (sV (oFaddr 0 (xL 0)) (sV (oLoad (xL 0)) (sV (oBin .sub .no (xT 1) (ki 1)) (sV (oIaddr 1 (xL 1) (xL 0)) (sV (oLoad (xL 0)) (sS 3 (xL 0) sEnd))))))))
 kSkip)
 (kSeq (kDraw [(.v (oMov (xT 0)), none), (.v (oNilc (xL 0)), none), (.v (oFaddr 1 (xL 0)), none), (.v (oLoad (xL 0)), none), (.v (oMov (xT 3)), none), (.v (oMov (xT 0)), none), (.v (oNilc (xL 0)), none), (.v (oFaddr 0 (xL 0)), none), (.v (oLoad (xL 0)), none), (.v (oMov (xT 1)), none), (.v (oIaddr 1 (xL 1) (xL 0)), none), (.v (oLoad (xL 0)), none), (.v (oSlc 1 (xL 8) (some (xL 7)) (some (xL 0)) none), none), (.v (oMov (xL 0)), none)] 0 [none, none, (some 0), none] [])
 kRet)))))
theorem t332 : FF d332 Tryz.f332 a332 [(.t 2)] := ff Tryz.func332 (by kernel_rfl)
def x332 : XFn := .go a332 2 pd2 [(.t 2)]
def d333 : FD := ⟨333, 2, []⟩
def a333 : CodeF := (kReg (sV (oLoad (xT 1)) (sH (oApp 5 1 (xL 0) (xT 0)) (sH (oStore 1 (xT 1) (xL 0)) sEnd))))
theorem t333 : FF d333 Tryz.f333 a333 [] := ff Tryz.func333 (by kernel_rfl)
def x333 : XFn := .go a333 2 pd0 []
def d334 : FD := ⟨334, 1, [2]⟩
def a334 : CodeF := (kSeq (kReg (sS 1 (xK nils) sEnd))
 (kSeq (kRegC (fun k => (sV (oBin .eql .slice (xT 0) (xK nils)) k)) (xL 0) (kSeq (kReg (sS 1 (xK nils) sEnd))
 kRet)
 kSkip)
 (kSeq (kReg (sH (oBsl 9 1 0 [(str [])] []) (sH (oApp 9 1 (xL 0) (xT 0)) (sS 1 (xL 0) sEnd))))
 kRet)))
theorem t334 : FF d334 Tryz.f334 a334 [(.t 1)] := ff Tryz.func334 (by kernel_rfl)
def x334 : XFn := .go a334 1 pd1 [(.t 1)]
def d335 : FD := ⟨335, 2, [4]⟩
def a335 : CodeF := (kSeq (kReg (sS 2 (xK (bool false)) sEnd))
 (kSeq (kReg (sC (cFn 392) [(xT 0)] (sG (xL 0) true (sV (oMov (xT 1))) (sG (xL 1) true (sC (cFn 392) [(xL 0)]) (sG (xL 2) true (sV (oUn .not (xL 0))) (sV (oPick (xL 3) (xL 0) (xK (bool false))) (sG (xL 0) false (sV (oMov (xT 0))) (sG (xL 1) false (sV (oMov (xT 1))) (sG (xL 2) false (sV (oBin .lss .no (xL 1) (xL 0))) (sV (oPick (xL 3) (xK (bool true)) (xL 0)) (sS 2 (xL 0) sEnd)))))))))))
 kRet))
theorem t335 : FF d335 Tryz.f335 a335 [(.t 2)] := ff Tryz.func335 (by kernel_rfl)
def x335 : XFn := .go a335 2 pd1 [(.t 2)]
def d364 : FD := ⟨364, 3, [6, 7, 30]⟩
def a364 : CodeF := (kSeq (kReg (sV (oBin .add .no (xT 1) (ki 1)) (sS 3 (xL 0) sEnd)))
 (kBlock 0 (kLoop (kSeq (kRegC (fun k => (sV (oBin .lss .no (xT 3) (xT 2)) k)) (xL 0) kSkip
 (kExit 0))
 (kSeq (kBlock 1 (kSeq (kReg (sS 4 (xT 3) sEnd))
 (kBlock 2 (kLoop (kSeq (kSeq (kDraw [(.v (oMov (xT 4)), none), (.v (oMov (xT 1)), none), (.v (oBin .gtr .no (xL 1) (xL 0)), none), (.v (oMov (xL 0)), none), (.v (oMov (xT 0)), (some ((xL 0), true))), (.v (oMov (xT 4)), (some ((xL 1), true))), (.v (oIaddr 1 (xL 1) (xL 0)), (some ((xL 2), true))), (.v (oLoad (xL 0)), (some ((xL 3), true))), (.v (oMov (xT 0)), (some ((xL 4), true))), (.v (oMov (xT 4)), (some ((xL 5), true))), (.v (oBin .sub .no (xL 0) (ki 1)), (some ((xL 6), true))), (.v (oIaddr 1 (xL 2) (xL 0)), (some ((xL 7), true))), (.v (oLoad (xL 0)), (some ((xL 8), true))), (.c (cFn 335) [(xL 5), (xL 0)], (some ((xL 9), true))), (.v (oPick (xL 10) (xL 0) (xK (bool false))), none)] 0 [none, none, none, none, none, (some 0)] [])
 (kCond (xT 5) kSkip
 (kExit 2)))
 (kSeq (kBlock 3 (kDraw [(.v (oMov (xT 0)), none), (.v (oMov (xT 4)), none), (.v (oMov (xT 0)), none), (.v (oMov (xT 4)), none), (.v (oBin .sub .no (xL 0) (ki 1)), none), (.v (oMov (xT 0)), none), (.v (oMov (xT 4)), none), (.v (oBin .sub .no (xL 0) (ki 1)), none), (.v (oIaddr 1 (xL 2) (xL 0)), none), (.v (oLoad (xL 0)), none), (.v (oMov (xT 0)), none), (.v (oMov (xT 4)), none), (.v (oIaddr 1 (xL 1) (xL 0)), none), (.v (oLoad (xL 0)), none), (.v (oIaddr 1 (xL 13) (xL 12)), none), (.h (oStore 1 (xL 0) (xL 5)), none), (.v (oIaddr 1 (xL 13) (xL 11)), none), (.h (oStore 1 (xL 0) (xL 3)), none)] 0 [none, none, none, none, none, none] []))
 (kReg (sV (oMov (xT 4)) (sV (oBin .sub .no (xL 0) (ki 1)) (sS 4 (xL 0) sEnd))))))))))
 (kReg (sV (oMov (xT 3)) (sV (oBin .add .no (xL 0) (ki 1)) (sS 3 (xL 0) sEnd)))))))))
theorem t364 : FF d364 Tryz.f364 a364 [] := ff Tryz.func364 (by kernel_rfl)
def x364 : XFn := .go a364 3 pd3 []
def d381 : FD := ⟨381, 3, [6, 7, 30]⟩
def a381 : CodeF := (kSeq (kReg (sV (oBin .add .no (xT 1) (ki 1)) (sS 3 (xL 0) sEnd)))
 (kBlock 0 (kLoop (kSeq (kRegC (fun k => (sV (oBin .lss .no (xT 3) (xT 2)) k)) (xL 0) kSkip
 (kExit 0))
 (kSeq (kBlock 1 (kSeq (kReg (sS 4 (xT 3) sEnd))
 (kBlock 2 (kLoop (kSeq (kSeq (kDraw [(.v (oMov (xT 4)), none), (.v (oMov (xT 1)), none), (.v (oBin .gtr .no (xL 1) (xL 0)), none), (.v (oMov (xL 0)), none), (.v (oMov (xT 0)), (some ((xL 0), true))), (.v (oMov (xT 4)), (some ((xL 1), true))), (.v (oIaddr 1 (xL 1) (xL 0)), (some ((xL 2), true))), (.v (oLoad (xL 0)), (some ((xL 3), true))), (.v (oMov (xT 0)), (some ((xL 4), true))), (.v (oMov (xT 4)), (some ((xL 5), true))), (.v (oBin .sub .no (xL 0) (ki 1)), (some ((xL 6), true))), (.v (oIaddr 1 (xL 2) (xL 0)), (some ((xL 7), true))), (.v (oLoad (xL 0)), (some ((xL 8), true))), (.c (cFn 387) [(xL 5), (xL 0)], (some ((xL 9), true))), (.v (oPick (xL 10) (xL 0) (xK (bool false))), none)] 0 [none, none, none, none, none, (some 0)] [])
 (kCond (xT 5) kSkip
 (kExit 2)))
 (kSeq (kBlock 3 (kDraw [(.v (oMov (xT 0)), none), (.v (oMov (xT 4)), none), (.v (oMov (xT 0)), none), (.v (oMov (xT 4)), none), (.v (oBin .sub .no (xL 0) (ki 1)), none), (.v (oMov (xT 0)), none), (.v (oMov (xT 4)), none), (.v (oBin .sub .no (xL 0) (ki 1)), none), (.v (oIaddr 1 (xL 2) (xL 0)), none), (.v (oLoad (xL 0)), none), (.v (oMov (xT 0)), none), (.v (oMov (xT 4)), none), (.v (oIaddr 1 (xL 1) (xL 0)), none), (.v (oLoad (xL 0)), none), (.v (oIaddr 1 (xL 13) (xL 12)), none), (.h (oStore 1 (xL 0) (xL 5)), none), (.v (oIaddr 1 (xL 13) (xL 11)), none), (.h (oStore 1 (xL 0) (xL 3)), none)] 0 [none, none, none, none, none, none] []))
 (kReg (sV (oMov (xT 4)) (sV (oBin .sub .no (xL 0) (ki 1)) (sS 4 (xL 0) sEnd))))))))))
 (kReg (sV (oMov (xT 3)) (sV (oBin .add .no (xL 0) (ki 1)) (sS 3 (xL 0) sEnd)))))))))
theorem t381 : FF d381 Tryz.f381 a381 [] := ff Tryz.func381 (by kernel_rfl)
def x381 : XFn := .go a381 3 pd3 []
def d390 : FD := ⟨390, 1, [2, 3, 20]⟩
def a390 : CodeF := (kSeq (kReg (sS 1 (xK (bool false)) sEnd))
 (kSeq (kSeq (kReg (sV (oLenL (xT 0)) (sV (oBin .sub .no (xL 0) (ki 1)) (sS 2 (xL 0) sEnd))))
 (kBlock 0 (kLoop (kSeq (kRegC (fun k => (sV (oBin .gtr .no (xT 2) (ki 0)) k)) (xL 0) kSkip
 (kExit 0))
 (kSeq (kBlock 1 (kSeq (kDraw [(.v (oMov (xT 0)), none), (.v (oMov (xT 2)), none), (.v (oIaddr 1 (xL 1) (xL 0)), none), (.v (oLoad (xL 0)), none), (.v (oMov (xT 0)), none), (.v (oMov (xT 2)), none), (.v (oBin .sub .no (xL 0) (ki 1)), none), (.v (oIaddr 1 (xL 2) (xL 0)), none), (.v (oLoad (xL 0)), none), (.c (cFn 387) [(xL 5), (xL 0)], none)] 0 [none, none, none, (some 0)] [])
 (kCond (xT 3) (kSeq (kReg (sS 1 (xK (bool false)) sEnd))
 kRet)
 kSkip)))
 (kReg (sV (oMov (xT 2)) (sV (oBin .sub .no (xL 0) (ki 1)) (sS 2 (xL 0) sEnd)))))))))
 (kSeq (kReg (sS 1 (xK (bool true)) sEnd))
 kRet)))
theorem t390 : FF d390 Tryz.f390 a390 [(.t 1)] := ff Tryz.func390 (by kernel_rfl)
def x390 : XFn := .go a390 1 pd3 [(.t 1)]
def d391 : FD := ⟨391, 3, [4, 5]⟩
def a391 : CodeF := (kSeq (kReg (sS 3 (ki 0) sEnd))
 (kBlock 0 (kLoop (kSeq (kRegC (fun k => (sV (oLoad (xT 1)) (sV (oLenL (xL 0)) (sV (oBin .lss .no (xT 3) (xL 0)) k)))) (xL 0) kSkip
 (kExit 0))
 (kSeq (kBlock 1 (kSeq (kDraw [(.v (oLoad (xT 2)), none), (.v (oLoad (xT 1)), none), (.v (oMov (xT 3)), none), (.v (oSlc 2 (xL 1) (some (xL 0)) none none), none), (.v (oLenL (xL 0)), none), (.v (oMm false (xL 4) [(xL 0)]), none), (.v (oMov (xL 0)), none)] 0 [none, none, none, none, (some 0)] [])
 (kRegC (fun k => (sV (oLoad (xT 1)) (sV (oBin .add .no (xT 3) (xT 4)) (sV (oBin .add .no (xT 3) (xT 4)) (sV (oSlc 2 (xL 2) (some (xT 3)) (some (xL 1)) (some (xL 0))) (sC (cVal (xT 0)) [(xL 0)] (sV (oUn .not (xL 0)) k))))))) (xL 0) kRet
 kSkip)))
 (kReg (sV (oMov (xT 3)) (sV (oLoad (xT 2)) (sV (oBin .add .no (xL 1) (xL 0)) (sS 3 (xL 0) sEnd))))))))))
theorem t391 : FF d391 Tryz.f391 a391 [] := ff Tryz.func391 (by kernel_rfl)
def x391 : XFn := .go a391 3 pd2 []
def d392 : FD := ⟨392, 1, [2]⟩
def a392 : CodeF := (kSeq (kReg (sS 1 (xK (bool false)) sEnd))
 (kSeq (kReg (sV (oBin .neq .no (xT 0) (xT 0)) (sS 1 (xL 0) sEnd)))
 kRet))
theorem t392 : FF d392 Tryz.f392 a392 [(.t 1)] := ff Tryz.func392 (by kernel_rfl)
def x392 : XFn := .go a392 1 pd1 [(.t 1)]
def d485 : FD := ⟨485, 3, [6]⟩
def a485 : CodeF := (kSeq (kReg (sS 3 (xK (bool false)) sEnd))
 (kSeq (kDraw [(.v (oMov (xT 0)), none), (.v (oMov (xT 1)), none), (.v (oIaddr 3 (xL 1) (xL 0)), none), (.v (oFaddr 0 (xL 0)), none), (.v (oLoad (xL 0)), none), (.v (oIaddr 1 (xL 0) (ki 0)), none), (.v (oLoad (xL 0)), none), (.v (oMov (xT 0)), none), (.v (oMov (xT 2)), none), (.v (oIaddr 3 (xL 1) (xL 0)), none), (.v (oFaddr 0 (xL 0)), none), (.v (oLoad (xL 0)), none), (.v (oIaddr 1 (xL 0) (ki 0)), none), (.v (oLoad (xL 0)), none), (.v (oBin .lss .no (xL 7) (xL 0)), none), (.v (oMov (xL 0)), none)] 0 [none, none, none, (some 0)] [])
 kRet))
theorem t485 : FF d485 Tryz.f485 a485 [(.t 3)] := ff Tryz.func485 (by kernel_rfl)
def x485 : XFn := .go a485 3 pd1 [(.t 3)]
def d486 : FD := ⟨486, 1, [2, 3, 4]⟩
def a486 : CodeF := (kSeq (kReg (sS 1 (xK nilif) sEnd))
 (kSeq (kReg (sV (oNilc (xT 0)) (sV (oFaddr 0 (xL 0)) (sV (oLoad (xL 0)) (sV (oLenL (xL 0)) (sV (oBin .sub .no (xL 0) (ki 1)) (sS 2 (xL 0) sEnd)))))))
 (kSeq (kReg (sV (oNilc (xT 0)) (sV (oFaddr 0 (xL 0)) (sV (oLoad (xL 0)) (sV (oIaddr 3 (xL 0) (xT 2)) (sV (oLoadN 3 (xL 0)) (sH (oAlloc 282 3 [nils, nils, (int .i64 (.ofNat 0))]) (sS 3 (xL 0) (sH (oStore 3 (xT 3) (xL 1)) sEnd)))))))))
 (kSeq (kReg (sV (oNilc (xT 0)) (sV (oFaddr 0 (xL 0)) (sV (oLoad (xL 0)) (sV (oSlc 3 (xL 0) none (some (xT 2)) none) (sV (oNilc (xT 0)) (sV (oFaddr 0 (xL 0)) (sH (oStore 1 (xL 0) (xL 2)) sEnd))))))))
 (kSeq (kReg (sV (oLoadN 3 (xT 3)) (sV (oMkif 282 (xL 0)) (sS 1 (xL 0) sEnd))))
 kRet)))))
theorem t486 : FF d486 Tryz.f486 a486 [(.t 1)] := ff Tryz.func486 (by kernel_rfl)
def x486 : XFn := .go a486 1 pd3 [(.t 1)]
def d487 : FD := ⟨487, 3, []⟩
def a487 : CodeF := (kDraw [(.v (oMov (xT 0)), none), (.v (oMov (xT 1)), none), (.v (oMov (xT 0)), none), (.v (oMov (xT 2)), none), (.v (oMov (xT 0)), none), (.v (oMov (xT 2)), none), (.v (oIaddr 3 (xL 1) (xL 0)), none), (.v (oLoadN 3 (xL 0)), none), (.v (oMov (xT 0)), none), (.v (oMov (xT 1)), none), (.v (oIaddr 3 (xL 1) (xL 0)), none), (.v (oLoadN 3 (xL 0)), none), (.v (oIaddr 3 (xL 11) (xL 10)), none), (.h (oStore 3 (xL 0) (xL 5)), none), (.v (oIaddr 3 (xL 11) (xL 10)), none), (.h (oStore 3 (xL 0) (xL 3)), none)] 0 [none, none, none] [])
theorem t487 : FF d487 Tryz.f487 a487 [] := ff Tryz.func487 (by kernel_rfl)
def x487 : XFn := .go a487 3 pd0 []
end
end Go.Proofs.YtobnfiiladkllaaGreatDoor
