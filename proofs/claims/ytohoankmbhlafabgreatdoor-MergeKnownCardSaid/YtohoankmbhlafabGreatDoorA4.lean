import Derived.Test.YtohoankmbhlafabGreatDoorP
import Derived.Test.YtohoankmbhlafabGreatDoorProg
import Derived.KernelRfl
/- The functions of the program as the interpreter has them; each is the program's, by the kernel. -/
set_option maxRecDepth 1000000
namespace Go.Proofs.YtohoankmbhlafabGreatDoor
open Go Go.Ai AVal
noncomputable section
def d267 : FD := ⟨267, 2, [4, 5]⟩
def a267 : CodeF := (kSeq (kReg (sS 2 (ki 0) (sS 3 (xK nilif) sEnd)))
 (kSeq (kReg (sC (cFn 325) [(xT 0)] sEnd))
 (kSeq (kReg (sV (oNilc (xT 0)) (sV (oFaddr 1 (xL 0)) (sV (oLoad (xL 0)) (sH (oApps 5 (xL 0) (xT 1)) (sV (oNilc (xT 0)) (sV (oFaddr 1 (xL 0)) (sH (oStore 1 (xL 0) (xL 2)) sEnd))))))))
 (kSeq (kReg (sV (oLenS (xT 1)) (sS 2 (xL 0) (sS 3 (xK nilif) sEnd))))
 kRet))))
theorem t267 : FF d267 Tryz.f267 a267 [(.t 2), (.t 3)] := ff Tryz.func267 (by kernel_rfl)
def x267 : XFn := .go a267 2 pd2 [(.t 2), (.t 3)]
def d268 : FD := ⟨268, 1, [2]⟩
def a268 : CodeF := (kSeq (kReg (sS 1 (xK (str [])) sEnd))
 (kSeq (kDraw [(.v (oMov (xT 0)), none), (.v (oNilc (xL 0)), none), (.v (oFaddr 1 (xL 0)), none), (.v (oLoad (xL 0)), none), (.v (oUsd (xL 0)), none), (.v (oMov (xT 0)), none), (.v (oNilc (xL 0)), none), (.v (oFaddr 1 (xL 0)), none), (.v (oLoad (xL 0)), none), (.v (oLenL (xL 0)), none), (.h (oUstr 5 (xL 5) (xL 0)), none), (.v (oMov (xL 0)), none)] 0 [none, (some 0)] [])
 kRet))
theorem t268 : FF d268 Tryz.f268 a268 [(.t 1)] := ff Tryz.func268 (by kernel_rfl)
def x268 : XFn := .go a268 1 pd1 [(.t 1)]
def d269 : FD := ⟨269, 1, [2, 3]⟩
def a269 : CodeF := (kSeq (kReg (sS 1 (xK nils) sEnd))
 (kSeq (kReg (sH (oAlloc 422 1 [nilfunc]) (sS 2 (xL 0) (sH (oStore 1 (xT 2) (xK (.func (.func 326) [] []))) sEnd))))
 (kSeq (kReg (sV (oMkfn 329 [] [(xT 2)]) (sV (oLoad (xT 2)) (sC (cFn 272) [(xT 0), (xL 1), (xL 0)] (sS 1 (xL 0) sEnd)))))
 kRet)))
theorem t269 : FF d269 Tryz.f269 a269 [(.t 1)] := ff Tryz.func269 (by kernel_rfl)
def x269 : XFn := .go a269 1 pd2 [(.t 1)]
def d270 : FD := ⟨270, 1, [2]⟩
def a270 : CodeF := (kSeq (kReg (sS 1 (xK (bool false)) sEnd))
 (kSeq (kReg (sC (cFn 271) [(xT 0)] (sV (oUn .not (xL 0)) (sS 1 (xL 0) sEnd))))
 kRet))
theorem t270 : FF d270 Tryz.f270 a270 [(.t 1)] := ff Tryz.func270 (by kernel_rfl)
def x270 : XFn := .go a270 1 pd1 [(.t 1)]
def d271 : FD := ⟨271, 1, [2, 3]⟩
def a271 : CodeF := (kSeq (kReg (sS 1 (xK (bool false)) sEnd))
 (kSeq (kBlock 0 (kSeq (kRegC (fun k => (sV (oBin .geq .no (xT 0) (xK (int .i32 (.ofNat 9)))) (sG (xL 0) true (sV (oMov (xT 0))) (sG (xL 1) true (sV (oBin .leq .no (xL 0) (xK (int .i32 (.ofNat 13))))) (sV (oPick (xL 2) (xL 0) (xK (bool false))) (sS 2 (xL 0) k)))))) (xT 2) kSkip
 (kRegC (fun k => (sV (oBin .eql .no (xT 0) (xK (int .i32 (.ofNat 32)))) (sS 2 (xL 0) k))) (xT 2) kSkip
 (kRegC (fun k => (sV (oBin .eql .no (xT 0) (xK (int .i32 (.ofNat 133)))) (sS 2 (xL 0) k))) (xT 2) kSkip
 (kRegC (fun k => (sV (oBin .eql .no (xT 0) (xK (int .i32 (.ofNat 160)))) (sS 2 (xL 0) k))) (xT 2) kSkip
 (kRegC (fun k => (sV (oBin .geq .no (xT 0) (xK (int .i32 (.ofNat 8192)))) (sG (xL 0) true (sV (oMov (xT 0))) (sG (xL 1) true (sV (oBin .leq .no (xL 0) (xK (int .i32 (.ofNat 8202))))) (sV (oPick (xL 2) (xL 0) (xK (bool false))) (sS 2 (xL 0) k)))))) (xT 2) kSkip
 (kRegC (fun k => (sV (oBin .eql .no (xT 0) (xK (int .i32 (.ofNat 8232)))) (sS 2 (xL 0) k))) (xT 2) kSkip
 (kRegC (fun k => (sV (oBin .eql .no (xT 0) (xK (int .i32 (.ofNat 8233)))) (sS 2 (xL 0) k))) (xT 2) kSkip
 (kReg (sV (oBin .eql .no (xT 0) (xK (int .i32 (.ofNat 12288)))) (sS 2 (xL 0) sEnd))))))))))
 (kCond (xT 2) (kSeq (kReg (sS 1 (xK (bool true)) sEnd))
 kRet)
 kSkip)))
 (kSeq (kReg (sS 1 (xK (bool false)) sEnd))
 kRet)))
theorem t271 : FF d271 Tryz.f271 a271 [(.t 1)] := ff Tryz.func271 (by kernel_rfl)
def x271 : XFn := .go a271 1 pd2 [(.t 1)]
def d272 : FD := ⟨272, 3, [6, 3, 7, 8, 14, 15, 16, 11, 4, 10, 9, 5]⟩
def a272 : CodeF := (kSeq (kReg (sH (oBox 9 1 (xT 0)) (sS 4 (xL 0) (sH (oBox 422 1 (xT 1)) (sS 11 (xL 0) (sH (oBox 422 1 (xT 2)) (sS 14 (xL 0) (sS 3 (xK nils) sEnd))))))))
 (kSeq (kReg (sH (oAlloc 307 1 [nils]) (sS 5 (xL 0) sEnd)))
 (kSeq (kReg (sH (oAlloc 3 1 [(int .i64 (.ofNat 0))]) (sS 6 (xL 0) (sH (oStore 1 (xT 6) (xK (int .i64 (.negSucc 0)))) sEnd))))
 (kSeq (kReg (sV (oMkfn 330 [] [(xT 6), (xT 5), (xT 4)]) (sH (oAlloc 24 1 [nilfunc]) (sS 13 (xL 0) (sH (oStore 1 (xT 13) (xL 1)) sEnd)))))
 (kSeq (kSeq (kReg (sV (oLoad (xT 4)) (sC (cFn 320) [(xL 0)] (sS 7 (xL 0) sEnd))))
 (kBlock 0 (kRf 134252666 [8, 9] (xT 7))))
 (kSeq (kReg (sV (oLoad (xT 13)) (sV (oLoad (xT 4)) (sV (oLenS (xL 0)) (sC (cVal (xL 2)) [(xL 0)] sEnd)))))
 (kSeq (kReg (sV (oLoad (xT 5)) (sS 3 (xL 0) sEnd)))
 kRet)))))))
theorem t272 : FF d272 Tryz.f272 a272 [(.t 3)] := ff Tryz.func272 (by kernel_rfl)
def x272 : XFn := .go a272 3 pd12 [(.t 3)]
def r272x0 : CodeF × CodeF := ((kSeq (kReg (sS 12 (xT 8) sEnd))
 (kReg (sS 10 (xT 9) sEnd))),
 (kBlock 1 (kBlock 2 (kRegC (fun k => (sV (oLoad (xT 11)) (sC (cVal (xL 0)) [(xT 10)] (sV (oUn .not (xL 0)) k)))) (xL 0) (kReg (sV (oLoad (xT 13)) (sC (cVal (xL 0)) [(xT 12)] sEnd)))
 (kRegC (fun k => (sV (oLoad (xT 6)) (sV (oBin .lss .no (xL 0) (ki 0)) (sG (xL 0) true (sV (oLoad (xT 14))) (sG (xL 1) true (sV (oMov (xT 10))) (sG (xL 2) true (sC (cVal (xL 1)) [(xL 0)]) (sV (oPick (xL 3) (xL 0) (xK (bool false))) k))))))) (xL 0) (kReg (sH (oStore 1 (xT 6) (xT 12)) sEnd))
 kSkip)))))
theorem u272x0 : RfFact Tryz.prog d272 Tryz.f272 134252666 r272x0 := ⟨Tryz.func272, by kernel_rfl⟩
def d273 : FD := ⟨273, 1, [2]⟩
def a273 : CodeF := (kSeq (kReg (sS 1 (xK (bool false)) sEnd))
 (kSeq (kReg (sS 1 (xK (bool true)) sEnd))
 kRet))
theorem t273 : FF d273 Tryz.f273 a273 [(.t 1)] := ff Tryz.func273 (by kernel_rfl)
def x273 : XFn := .go a273 1 pd1 [(.t 1)]
def d274 : FD := ⟨274, 1, [2]⟩
def a274 : CodeF := (kSeq (kReg (sS 1 (xK (bool false)) sEnd))
 (kSeq (kReg (sS 1 (xK (bool true)) sEnd))
 kRet))
theorem t274 : FF d274 Tryz.f274 a274 [(.t 1)] := ff Tryz.func274 (by kernel_rfl)
def x274 : XFn := .go a274 1 pd1 [(.t 1)]
def d275 : FD := ⟨275, 2, [4, 5]⟩
def a275 : CodeF := (kSeq (kReg (sS 2 (xK (str [])) (sS 3 (xK (bool false)) sEnd)))
 (kSeq (kRegC (fun k => (sC (cFn 331) [(xT 0), (xT 1)] (sV (oUn .not (xL 0)) k))) (xL 0) (kSeq (kReg (sS 2 (xT 0) (sS 3 (xK (bool false)) sEnd)))
 kRet)
 kSkip)
 (kSeq (kReg (sV (oLenS (xT 1)) (sV (oSlcs (xT 0) (some (xL 0)) none) (sS 2 (xL 0) (sS 3 (xK (bool true)) sEnd)))))
 kRet)))
theorem t275 : FF d275 Tryz.f275 a275 [(.t 2), (.t 3)] := ff Tryz.func275 (by kernel_rfl)
def x275 : XFn := .go a275 2 pd2 [(.t 2), (.t 3)]
def d276 : FD := ⟨276, 2, [4, 5, 6, 7]⟩
def a276 : CodeF := (kSeq (kReg (sS 2 (xK (str [])) (sS 3 (xK (str [])) (sS 4 (xK (bool false)) sEnd))))
 (kSeq (kSeq (kReg (sC (cFn 332) [(xT 0), (xT 1)] (sS 5 (xL 0) sEnd)))
 (kRegC (fun k => (sV (oBin .geq .no (xT 5) (ki 0)) k)) (xL 0) (kSeq (kDraw [(.v (oMov (xT 0)), none), (.v (oMov (xT 5)), none), (.v (oSlcs (xL 1) none (some (xL 0))), none), (.v (oMov (xT 0)), none), (.v (oMov (xT 5)), none), (.v (oMov (xT 1)), none), (.v (oLenS (xL 0)), none), (.v (oBin .add .no (xL 2) (xL 0)), none), (.v (oSlcs (xL 4) (some (xL 0)) none), none), (.v (oMov (xL 6)), none), (.v (oMov (xL 1)), none), (.v (oMov (xK (bool true))), none)] 0 [none, none, (some 2), (some 1), (some 0), none] [])
 kRet)
 kSkip))
 (kSeq (kReg (sS 2 (xT 0) (sS 3 (xK (str [])) (sS 4 (xK (bool false)) sEnd))))
 kRet)))
theorem t276 : FF d276 Tryz.f276 a276 [(.t 2), (.t 3), (.t 4)] := ff Tryz.func276 (by kernel_rfl)
def x276 : XFn := .go a276 2 pd4 [(.t 2), (.t 3), (.t 4)]
def d277 : FD := ⟨277, 2, [4]⟩
def a277 : CodeF := (kSeq (kReg (sS 2 (ki 0) sEnd))
 (kSeq (kReg (sC (cFn 333) [(xT 0), (xT 1), (xK (bool true))] (sS 2 (xL 0) sEnd)))
 kRet))
theorem t277 : FF d277 Tryz.f277 a277 [(.t 2)] := ff Tryz.func277 (by kernel_rfl)
def x277 : XFn := .go a277 2 pd1 [(.t 2)]
def d278 : FD := ⟨278, 1, [2]⟩
def a278 : CodeF := (kSeq (kReg (sS 1 (xK (bool false)) sEnd))
 (kSeq (kReg (sV (oBin .lss .no (xT 0) (xK (int .i32 (.ofNat 48)))) (sG (xL 0) false (sV (oMov (xT 0))) (sG (xL 1) false (sV (oBin .gtr .no (xL 0) (xK (int .i32 (.ofNat 57))))) (sV (oPick (xL 2) (xK (bool true)) (xL 0)) (sS 1 (xL 0) sEnd))))))
 kRet))
theorem t278 : FF d278 Tryz.f278 a278 [(.t 1)] := ff Tryz.func278 (by kernel_rfl)
def x278 : XFn := .go a278 1 pd1 [(.t 1)]
def d279 : FD := ⟨279, 2, [4]⟩
def a279 : CodeF := (kSeq (kReg (sS 2 (xK (bool false)) sEnd))
 (kSeq (kReg (sC (cFn 331) [(xT 0), (xT 1)] (sS 2 (xL 0) sEnd)))
 kRet))
theorem t279 : FF d279 Tryz.f279 a279 [(.t 2)] := ff Tryz.func279 (by kernel_rfl)
def x279 : XFn := .go a279 2 pd1 [(.t 2)]
def d280 : FD := ⟨280, 2, [21]⟩
def a280 : CodeF := (kSeq (kReg (sC (cFn 325) [(xT 0)] sEnd))
 (kSeq (kRegC (fun k => (sV (oBin .lss .no (xT 1) (ki 0)) k)) (xL 0) (kReg (sV (oMkif 9 (xK (str [115, 116, 114, 105, 110, 103, 115, 46, 66, 117, 105, 108, 100, 101, 114, 46, 71, 114, 111, 119, 58, 32, 110, 101, 103, 97, 116, 105, 118, 101, 32, 99, 111, 117, 110, 116]))) (sPan (xL 0))))
 kSkip)
 (kSeq (kDraw [(.v (oMov (xT 0)), none), (.v (oNilc (xL 0)), none), (.v (oFaddr 1 (xL 0)), none), (.v (oLoad (xL 0)), none), (.v (oCap (xL 0)), none), (.v (oMov (xT 0)), none), (.v (oNilc (xL 0)), none), (.v (oFaddr 1 (xL 0)), none), (.v (oLoad (xL 0)), none), (.v (oLenL (xL 0)), none), (.v (oBin .sub .no (xL 5) (xL 0)), none), (.v (oMov (xT 1)), none), (.v (oBin .lss .no (xL 1) (xL 0)), none)] 0 [none, none, (some 0)] [])
 (kCond (xT 2) (kReg (sC (cFn 334) [(xT 0), (xT 1)] sEnd))
 kSkip))))
theorem t280 : FF d280 Tryz.f280 a280 [] := ff Tryz.func280 (by kernel_rfl)
def x280 : XFn := .go a280 2 pd1 []
def d281 : FD := ⟨281, 1, [2]⟩
def a281 : CodeF := (kSeq (kReg (sS 1 (ki 0) sEnd))
 (kSeq (kReg (sV (oNilc (xT 0)) (sV (oFaddr 1 (xL 0)) (sV (oLoad (xL 0)) (sV (oLenL (xL 0)) (sS 1 (xL 0) sEnd))))))
 kRet))
theorem t281 : FF d281 Tryz.f281 a281 [(.t 1)] := ff Tryz.func281 (by kernel_rfl)
def x281 : XFn := .go a281 1 pd1 [(.t 1)]
def d282 : FD := ⟨282, 3, [6, 7, 16, 10, 9, 8, 11]⟩
def a282 : CodeF := (kSeq (kReg (sS 3 (ki 0) (sS 4 (xK nilif) sEnd)))
 (kSeq (kRegC (fun k => (sV (oBin .eql .no (xT 0) (xK (str []))) k)) (xL 0) (kSeq (kReg (sV (oMkif 464 (ki 2)) (sS 3 (ki 0) (sS 4 (xL 0) sEnd))))
 kRet)
 kSkip)
 (kSeq (kReg (sS 8 (xK (bool false)) sEnd))
 (kSeq (kSeq (kReg (sV (oIdx (xT 0) (ki 0)) (sS 5 (xL 0) sEnd)))
 (kBlock 0 (kRegC (fun k => (sV (oBin .eql .no (xT 5) (xK (int .u8 (.ofNat 43)))) k)) (xL 0) (kReg (sV (oMov (xT 0)) (sV (oSlcs (xL 0) (some (ki 1)) none) (sS 0 (xL 0) sEnd))))
 (kRegC (fun k => (sV (oBin .eql .no (xT 5) (xK (int .u8 (.ofNat 45)))) k)) (xL 0) (kSeq (kReg (sV (oMov (xT 0)) (sV (oSlcs (xL 0) (some (ki 1)) none) (sS 0 (xL 0) sEnd))))
 (kReg (sS 8 (xK (bool true)) sEnd)))
 kSkip))))
 (kSeq (kReg (sS 7 (xK (int .u64 (.ofNat 0))) sEnd))
 (kSeq (kReg (sC (cFn 335) [(xT 0), (xT 1), (xT 2)] (sV (oExt 0 (xL 0)) (sV (oExt 1 (xL 1)) (sS 7 (xL 1) (sS 4 (xL 0) sEnd))))))
 (kSeq (kRegC (fun k => (sV (oBin .neq (.iface true) (xT 4) (xK nilif)) (sG (xL 0) true (sV (oMov (xT 4))) (sG (xL 1) true (sV (oMkif 464 (ki 1))) (sG (xL 2) true (sV (oBin .neq (.iface false) (xL 1) (xL 0))) (sV (oPick (xL 3) (xL 0) (xK (bool false))) k)))))) (xL 0) (kSeq (kReg (sV (oMov (xT 4)) (sS 3 (ki 0) (sS 4 (xL 0) sEnd))))
 kRet)
 kSkip)
 (kSeq (kRegC (fun k => (sV (oBin .eql .no (xT 2) (ki 0)) k)) (xL 0) (kReg (sS 2 (ki 64) sEnd))
 kSkip)
 (kSeq (kReg (sV (oBin .sub .no (xT 2) (ki 1)) (sV (oConv .u64 (xL 0)) (sV (oBin .shl .no (xK (int .u64 (.ofNat 1))) (xL 0)) (sS 6 (xL 0) sEnd)))))
 (kSeq (kRegC (fun k => (sV (oUn .not (xT 8)) (sG (xL 0) true (sV (oMov (xT 7))) (sG (xL 1) true (sV (oMov (xT 6))) (sG (xL 2) true (sV (oBin .geq .no (xL 1) (xL 0))) (sV (oPick (xL 3) (xL 0) (xK (bool false))) k)))))) (xL 0) (kSeq (kReg (sV (oBin .sub .no (xT 6) (xK (int .u64 (.ofNat 1)))) (sV (oConv .i64 (xL 0)) (sV (oMkif 464 (ki 1)) (sS 3 (xL 1) (sS 4 (xL 0) sEnd))))))
 kRet)
 kSkip)
 (kSeq (kRegC (fun k => (sG (xT 8) true (sV (oMov (xT 7))) (sG (xT 8) true (sV (oMov (xT 6))) (sG (xT 8) true (sV (oBin .gtr .no (xL 1) (xL 0))) (sV (oPick (xT 8) (xL 0) (xK (bool false))) k))))) (xL 0) (kSeq (kReg (sV (oConv .i64 (xT 6)) (sV (oUn .neg (xL 0)) (sV (oMkif 464 (ki 1)) (sS 3 (xL 1) (sS 4 (xL 0) sEnd))))))
 kRet)
 kSkip)
 (kSeq (kReg (sV (oConv .i64 (xT 7)) (sS 9 (xL 0) sEnd)))
 (kSeq (kRegC (fun k => k) (xT 8) (kReg (sV (oMov (xT 9)) (sV (oUn .neg (xL 0)) (sS 9 (xL 0) sEnd))))
 kSkip)
 (kSeq (kReg (sS 3 (xT 9) (sS 4 (xK nilif) sEnd)))
 kRet))))))))))))))
theorem t282 : FF d282 Tryz.f282 a282 [(.t 3), (.t 4)] := ff Tryz.func282 (by kernel_rfl)
def x282 : XFn := .go a282 3 pd7 [(.t 3), (.t 4)]
def d283 : FD := ⟨283, 5, [10, 11]⟩
def a283 : CodeF := (kSeq (kReg (sS 5 (xK nilif) sEnd))
 (kSeq (kSeq (kReg (sS 6 (xT 4) sEnd))
 (kBlock 0 (kRegC (fun k => (sV (oMkif 464 (ki 2)) (sV (oBin .eql (.iface false) (xT 6) (xL 0)) k))) (xL 0) (kSeq (kReg (sC (cFn 336) [(xT 0), (xT 1)] (sV (oMkif 467 (xL 0)) (sS 5 (xL 0) sEnd))))
 kRet)
 (kRegC (fun k => (sV (oMkif 464 (ki 1)) (sV (oBin .eql (.iface false) (xT 6) (xL 0)) k))) (xL 0) (kSeq (kReg (sC (cFn 337) [(xT 0), (xT 1)] (sV (oMkif 467 (xL 0)) (sS 5 (xL 0) sEnd))))
 kRet)
 (kRegC (fun k => (sV (oMkif 464 (ki 3)) (sV (oBin .eql (.iface false) (xT 6) (xL 0)) k))) (xL 0) (kSeq (kReg (sC (cFn 338) [(xT 0), (xT 1), (xT 2)] (sV (oMkif 467 (xL 0)) (sS 5 (xL 0) sEnd))))
 kRet)
 (kRegC (fun k => (sV (oMkif 464 (ki 4)) (sV (oBin .eql (.iface false) (xT 6) (xL 0)) k))) (xL 0) (kSeq (kReg (sC (cFn 339) [(xT 0), (xT 1), (xT 3)] (sV (oMkif 467 (xL 0)) (sS 5 (xL 0) sEnd))))
 kRet)
 kSkip))))))
 (kSeq (kReg (sS 5 (xT 4) sEnd))
 kRet)))
theorem t283 : FF d283 Tryz.f283 a283 [(.t 5)] := ff Tryz.func283 (by kernel_rfl)
def x283 : XFn := .go a283 5 pd2 [(.t 5)]
def d284 : FD := ⟨284, 3, [6, 7, 30]⟩
def a284 : CodeF := (kSeq (kReg (sV (oBin .add .no (xT 1) (ki 1)) (sS 3 (xL 0) sEnd)))
 (kBlock 0 (kLoop (kSeq (kRegC (fun k => (sV (oBin .lss .no (xT 3) (xT 2)) k)) (xL 0) kSkip
 (kExit 0))
 (kSeq (kBlock 1 (kSeq (kReg (sS 4 (xT 3) sEnd))
 (kBlock 2 (kLoop (kSeq (kSeq (kDraw [(.v (oMov (xT 4)), none), (.v (oMov (xT 1)), none), (.v (oBin .gtr .no (xL 1) (xL 0)), none), (.v (oMov (xL 0)), none), (.v (oMov (xT 0)), (some ((xL 0), true))), (.v (oMov (xT 4)), (some ((xL 1), true))), (.v (oIaddr 1 (xL 1) (xL 0)), (some ((xL 2), true))), (.v (oLoad (xL 0)), (some ((xL 3), true))), (.v (oMov (xT 0)), (some ((xL 4), true))), (.v (oMov (xT 4)), (some ((xL 5), true))), (.v (oBin .sub .no (xL 0) (ki 1)), (some ((xL 6), true))), (.v (oIaddr 1 (xL 2) (xL 0)), (some ((xL 7), true))), (.v (oLoad (xL 0)), (some ((xL 8), true))), (.c (cFn 256) [(xL 5), (xL 0)], (some ((xL 9), true))), (.v (oPick (xL 10) (xL 0) (xK (bool false))), none)] 0 [none, none, none, none, none, (some 0)] [])
 (kCond (xT 5) kSkip
 (kExit 2)))
 (kSeq (kBlock 3 (kDraw [(.v (oMov (xT 0)), none), (.v (oMov (xT 4)), none), (.v (oMov (xT 0)), none), (.v (oMov (xT 4)), none), (.v (oBin .sub .no (xL 0) (ki 1)), none), (.v (oMov (xT 0)), none), (.v (oMov (xT 4)), none), (.v (oBin .sub .no (xL 0) (ki 1)), none), (.v (oIaddr 1 (xL 2) (xL 0)), none), (.v (oLoad (xL 0)), none), (.v (oMov (xT 0)), none), (.v (oMov (xT 4)), none), (.v (oIaddr 1 (xL 1) (xL 0)), none), (.v (oLoad (xL 0)), none), (.v (oIaddr 1 (xL 13) (xL 12)), none), (.h (oStore 1 (xL 0) (xL 5)), none), (.v (oIaddr 1 (xL 13) (xL 11)), none), (.h (oStore 1 (xL 0) (xL 3)), none)] 0 [none, none, none, none, none, none] []))
 (kReg (sV (oMov (xT 4)) (sV (oBin .sub .no (xL 0) (ki 1)) (sS 4 (xL 0) sEnd))))))))))
 (kReg (sV (oMov (xT 3)) (sV (oBin .add .no (xL 0) (ki 1)) (sS 3 (xL 0) sEnd)))))))))
theorem t284 : FF d284 Tryz.f284 a284 [] := ff Tryz.func284 (by kernel_rfl)
def x284 : XFn := .go a284 3 pd3 []
def d285 : FD := ⟨285, 3, [8, 9, 6, 10, 7]⟩
def a285 : CodeF := (kSeq (kReg (sS 5 (xT 1) sEnd))
 (kSeq (kReg (sS 7 (ki 0) sEnd))
 (kSeq (kReg (sV (oBin .sub .no (xT 2) (xT 1)) (sS 3 (xL 0) sEnd)))
 (kSeq (kSeq (kReg (sV (oBin .sub .no (xT 3) (ki 1)) (sV (oBin .quo .no (xL 0) (ki 2)) (sS 4 (xL 0) sEnd))))
 (kBlock 0 (kLoop (kSeq (kRegC (fun k => (sV (oBin .geq .no (xT 4) (ki 0)) k)) (xL 0) kSkip
 (kExit 0))
 (kSeq (kBlock 1 (kReg (sC (cFn 340) [(xT 0), (xT 4), (xT 3), (xT 5)] sEnd)))
 (kReg (sV (oMov (xT 4)) (sV (oBin .sub .no (xL 0) (ki 1)) (sS 4 (xL 0) sEnd)))))))))
 (kSeq (kReg (sV (oBin .sub .no (xT 3) (ki 1)) (sS 6 (xL 0) sEnd)))
 (kBlock 2 (kLoop (kSeq (kRegC (fun k => (sV (oBin .geq .no (xT 6) (ki 0)) k)) (xL 0) kSkip
 (kExit 2))
 (kSeq (kBlock 3 (kSeq (kDraw [(.v (oMov (xT 0)), none), (.v (oMov (xT 5)), none), (.v (oMov (xT 0)), none), (.v (oMov (xT 5)), none), (.v (oMov (xT 6)), none), (.v (oBin .add .no (xL 1) (xL 0)), none), (.v (oMov (xT 0)), none), (.v (oMov (xT 5)), none), (.v (oMov (xT 6)), none), (.v (oBin .add .no (xL 1) (xL 0)), none), (.v (oIaddr 1 (xL 3) (xL 0)), none), (.v (oLoad (xL 0)), none), (.v (oMov (xT 0)), none), (.v (oMov (xT 5)), none), (.v (oIaddr 1 (xL 1) (xL 0)), none), (.v (oLoad (xL 0)), none), (.v (oIaddr 1 (xL 15) (xL 14)), none), (.h (oStore 1 (xL 0) (xL 5)), none), (.v (oIaddr 1 (xL 15) (xL 12)), none), (.h (oStore 1 (xL 0) (xL 3)), none)] 0 [none, none, none, none, none, none, none, none] [])
 (kReg (sC (cFn 340) [(xT 0), (xT 7), (xT 6), (xT 5)] sEnd))))
 (kReg (sV (oMov (xT 6)) (sV (oBin .sub .no (xL 0) (ki 1)) (sS 6 (xL 0) sEnd)))))))))))))
theorem t285 : FF d285 Tryz.f285 a285 [] := ff Tryz.func285 (by kernel_rfl)
def x285 : XFn := .go a285 3 pd5 []
def d286 : FD := ⟨286, 3, [6, 9, 8, 7, 10]⟩
def a286 : CodeF := (kSeq (kReg (sV (oBin .sub .no (xT 2) (xT 1)) (sS 3 (xL 0) sEnd)))
 (kRegC (fun k => (sV (oBin .geq .no (xT 3) (ki 8)) k)) (xL 0) (kSeq (kReg (sV (oConv .u64 (xT 3)) (sH (oAlloc 470 1 [(int .u64 (.ofNat 0))]) (sS 6 (xL 0) (sH (oStore 1 (xT 6) (xL 1)) sEnd)))))
 (kSeq (kReg (sC (cFn 341) [(xT 3)] (sS 5 (xL 0) sEnd)))
 (kSeq (kReg (sV (oBin .quo .no (xT 3) (ki 4)) (sV (oBin .mul .no (xL 0) (ki 2)) (sV (oBin .add .no (xT 1) (xL 0)) (sV (oBin .sub .no (xL 0) (ki 1)) (sS 4 (xL 0) sEnd))))))
 (kBlock 0 (kLoop (kSeq (kRegC (fun k => (sV (oBin .quo .no (xT 3) (ki 4)) (sV (oBin .mul .no (xL 0) (ki 2)) (sV (oBin .add .no (xT 1) (xL 0)) (sV (oBin .add .no (xL 0) (ki 1)) (sV (oBin .leq .no (xT 4) (xL 0)) k)))))) (xL 0) kSkip
 (kExit 0))
 (kSeq (kBlock 1 (kSeq (kReg (sC (cFn 342) [(xT 6)] (sV (oBin .sub .no (xT 5) (xK (int .u64 (.ofNat 1)))) (sV (oBin .and .no (xL 1) (xL 0)) (sV (oConv .i64 (xL 0)) (sS 7 (xL 0) sEnd))))))
 (kSeq (kRegC (fun k => (sV (oBin .geq .no (xT 7) (xT 3)) k)) (xL 0) (kReg (sV (oMov (xT 7)) (sV (oBin .sub .no (xL 0) (xT 3)) (sS 7 (xL 0) sEnd))))
 kSkip)
 (kDraw [(.v (oMov (xT 0)), none), (.v (oMov (xT 4)), none), (.v (oMov (xT 0)), none), (.v (oMov (xT 1)), none), (.v (oMov (xT 7)), none), (.v (oBin .add .no (xL 1) (xL 0)), none), (.v (oMov (xT 0)), none), (.v (oMov (xT 1)), none), (.v (oMov (xT 7)), none), (.v (oBin .add .no (xL 1) (xL 0)), none), (.v (oIaddr 1 (xL 3) (xL 0)), none), (.v (oLoad (xL 0)), none), (.v (oMov (xT 0)), none), (.v (oMov (xT 4)), none), (.v (oIaddr 1 (xL 1) (xL 0)), none), (.v (oLoad (xL 0)), none), (.v (oIaddr 1 (xL 15) (xL 14)), none), (.h (oStore 1 (xL 0) (xL 5)), none), (.v (oIaddr 1 (xL 15) (xL 12)), none), (.h (oStore 1 (xL 0) (xL 3)), none)] 0 [none, none, none, none, none, none, none, none] []))))
 (kReg (sV (oMov (xT 4)) (sV (oBin .add .no (xL 0) (ki 1)) (sS 4 (xL 0) sEnd)))))))))))
 kSkip))
theorem t286 : FF d286 Tryz.f286 a286 [] := ff Tryz.func286 (by kernel_rfl)
def x286 : XFn := .go a286 3 pd5 []
def d287 : FD := ⟨287, 3, [6, 7, 8, 9, 10, 11, 12, 49]⟩
def a287 : CodeF := (kSeq (kReg (sS 3 (ki 0) (sS 4 (ki 0) sEnd)))
 (kSeq (kReg (sV (oBin .sub .no (xT 2) (xT 1)) (sS 5 (xL 0) sEnd)))
 (kSeq (kReg (sH (oAlloc 3 1 [(int .i64 (.ofNat 0))]) (sS 6 (xL 0) sEnd)))
 (kSeq (kReg (sV (oBin .quo .no (xT 5) (ki 4)) (sV (oBin .mul .no (xL 0) (ki 1)) (sV (oBin .add .no (xT 1) (xL 0)) (sS 7 (xL 0) sEnd)))))
 (kSeq (kReg (sV (oBin .quo .no (xT 5) (ki 4)) (sV (oBin .mul .no (xL 0) (ki 2)) (sV (oBin .add .no (xT 1) (xL 0)) (sS 8 (xL 0) sEnd)))))
 (kSeq (kReg (sV (oBin .quo .no (xT 5) (ki 4)) (sV (oBin .mul .no (xL 0) (ki 3)) (sV (oBin .add .no (xT 1) (xL 0)) (sS 9 (xL 0) sEnd)))))
 (kSeq (kRegC (fun k => (sV (oBin .geq .no (xT 5) (ki 8)) k)) (xL 0) (kSeq (kRegC (fun k => (sV (oBin .geq .no (xT 5) (ki 50)) k)) (xL 0) (kSeq (kReg (sV (oMov (xT 7)) (sC (cFn 343) [(xT 0), (xL 0), (xT 6)] (sS 7 (xL 0) sEnd))))
 (kSeq (kReg (sV (oMov (xT 8)) (sC (cFn 343) [(xT 0), (xL 0), (xT 6)] (sS 8 (xL 0) sEnd))))
 (kReg (sV (oMov (xT 9)) (sC (cFn 343) [(xT 0), (xL 0), (xT 6)] (sS 9 (xL 0) sEnd))))))
 kSkip)
 (kReg (sV (oMov (xT 8)) (sC (cFn 344) [(xT 0), (xT 7), (xL 0), (xT 9), (xT 6)] (sS 8 (xL 0) sEnd)))))
 kSkip)
 (kSeq (kReg (sV (oLoad (xT 6)) (sS 10 (xL 0) sEnd)))
 (kBlock 0 (kRegC (fun k => (sV (oBin .eql .no (xT 10) (ki 0)) k)) (xL 0) (kSeq (kReg (sS 3 (xT 8) (sS 4 (ki 1) sEnd)))
 kRet)
 (kRegC (fun k => (sV (oBin .eql .no (xT 10) (ki 12)) k)) (xL 0) (kSeq (kReg (sS 3 (xT 8) (sS 4 (ki 2) sEnd)))
 kRet)
 (kSeq (kReg (sS 3 (xT 8) (sS 4 (ki 0) sEnd)))
 kRet))))))))))))
theorem t287 : FF d287 Tryz.f287 a287 [(.t 3), (.t 4)] := ff Tryz.func287 (by kernel_rfl)
def x287 : XFn := .go a287 3 pd8 [(.t 3), (.t 4)]
def d288 : FD := ⟨288, 3, [7, 6]⟩
def a288 : CodeF := (kSeq (kReg (sS 4 (xT 1) sEnd))
 (kSeq (kReg (sV (oBin .sub .no (xT 2) (ki 1)) (sS 3 (xL 0) sEnd)))
 (kBlock 0 (kLoop (kSeq (kRegC (fun k => (sV (oBin .lss .no (xT 4) (xT 3)) k)) (xL 0) kSkip
 (kExit 0))
 (kBlock 1 (kSeq (kDraw [(.v (oMov (xT 0)), none), (.v (oMov (xT 4)), none), (.v (oMov (xT 0)), none), (.v (oMov (xT 3)), none), (.v (oMov (xT 0)), none), (.v (oMov (xT 3)), none), (.v (oIaddr 1 (xL 1) (xL 0)), none), (.v (oLoad (xL 0)), none), (.v (oMov (xT 0)), none), (.v (oMov (xT 4)), none), (.v (oIaddr 1 (xL 1) (xL 0)), none), (.v (oLoad (xL 0)), none), (.v (oIaddr 1 (xL 11) (xL 10)), none), (.h (oStore 1 (xL 0) (xL 5)), none), (.v (oIaddr 1 (xL 11) (xL 10)), none), (.h (oStore 1 (xL 0) (xL 3)), none)] 0 [none, none, none, none, none] [])
 (kSeq (kReg (sV (oMov (xT 4)) (sV (oBin .add .no (xL 0) (ki 1)) (sS 4 (xL 0) sEnd))))
 (kReg (sV (oMov (xT 3)) (sV (oBin .sub .no (xL 0) (ki 1)) (sS 3 (xL 0) sEnd))))))))))))
theorem t288 : FF d288 Tryz.f288 a288 [] := ff Tryz.func288 (by kernel_rfl)
def x288 : XFn := .go a288 3 pd2 []
def d289 : FD := ⟨289, 3, [6, 8, 7, 32, 9, 78, 10, 116]⟩
def a289 : CodeF := (kSeq (kReg (sS 3 (xK (bool false)) sEnd))
 (kSeq (kReg (sV (oBin .add .no (xT 1) (ki 1)) (sS 5 (xL 0) sEnd)))
 (kSeq (kSeq (kReg (sS 4 (ki 0) sEnd))
 (kBlock 0 (kLoop (kSeq (kRegC (fun k => (sV (oBin .lss .no (xT 4) (ki 5)) k)) (xL 0) kSkip
 (kExit 0))
 (kSeq (kBlock 1 (kSeq (kBlock 2 (kLoop (kSeq (kSeq (kDraw [(.v (oMov (xT 5)), none), (.v (oMov (xT 2)), none), (.v (oBin .lss .no (xL 1) (xL 0)), none), (.v (oMov (xL 0)), none), (.v (oMov (xT 0)), (some ((xL 0), true))), (.v (oMov (xT 5)), (some ((xL 1), true))), (.v (oIaddr 1 (xL 1) (xL 0)), (some ((xL 2), true))), (.v (oLoad (xL 0)), (some ((xL 3), true))), (.v (oMov (xT 0)), (some ((xL 4), true))), (.v (oMov (xT 5)), (some ((xL 5), true))), (.v (oBin .sub .no (xL 0) (ki 1)), (some ((xL 6), true))), (.v (oIaddr 1 (xL 2) (xL 0)), (some ((xL 7), true))), (.v (oLoad (xL 0)), (some ((xL 8), true))), (.c (cFn 256) [(xL 5), (xL 0)], (some ((xL 9), true))), (.v (oUn .not (xL 0)), (some ((xL 10), true))), (.v (oPick (xL 11) (xL 0) (xK (bool false))), none)] 0 [none, none, none, none, none, none, (some 0), none, none, none, none] [])
 (kCond (xT 6) kSkip
 (kExit 2)))
 (kBlock 3 (kReg (sV (oMov (xT 5)) (sV (oBin .add .no (xL 0) (ki 1)) (sS 5 (xL 0) sEnd))))))))
 (kSeq (kRegC (fun k => (sV (oBin .eql .no (xT 5) (xT 2)) k)) (xL 0) (kSeq (kReg (sS 3 (xK (bool true)) sEnd))
 kRet)
 kSkip)
 (kSeq (kRegC (fun k => (sV (oBin .sub .no (xT 2) (xT 1)) (sV (oBin .lss .no (xL 0) (ki 50)) k))) (xL 0) (kSeq (kReg (sS 3 (xK (bool false)) sEnd))
 kRet)
 kSkip)
 (kSeq (kDraw [(.v (oMov (xT 0)), none), (.v (oMov (xT 5)), none), (.v (oMov (xT 0)), none), (.v (oMov (xT 5)), none), (.v (oBin .sub .no (xL 0) (ki 1)), none), (.v (oMov (xT 0)), none), (.v (oMov (xT 5)), none), (.v (oBin .sub .no (xL 0) (ki 1)), none), (.v (oIaddr 1 (xL 2) (xL 0)), none), (.v (oLoad (xL 0)), none), (.v (oMov (xT 0)), none), (.v (oMov (xT 5)), none), (.v (oIaddr 1 (xL 1) (xL 0)), none), (.v (oLoad (xL 0)), none), (.v (oIaddr 1 (xL 13) (xL 12)), none), (.h (oStore 1 (xL 0) (xL 5)), none), (.v (oIaddr 1 (xL 13) (xL 11)), none), (.h (oStore 1 (xL 0) (xL 3)), none)] 0 [none, none, none, none, none, none, none, none, none, none, none] [])
 (kSeq (kRegC (fun k => (sV (oBin .sub .no (xT 5) (xT 1)) (sV (oBin .geq .no (xL 0) (ki 2)) k))) (xL 0) (kSeq (kReg (sV (oBin .sub .no (xT 5) (ki 1)) (sS 7 (xL 0) sEnd)))
 (kBlock 4 (kLoop (kSeq (kRegC (fun k => (sV (oBin .geq .no (xT 7) (ki 1)) k)) (xL 0) kSkip
 (kExit 4))
 (kSeq (kBlock 5 (kSeq (kSeq (kDraw [(.v (oMov (xT 0)), none), (.v (oMov (xT 7)), none), (.v (oIaddr 1 (xL 1) (xL 0)), none), (.v (oLoad (xL 0)), none), (.v (oMov (xT 0)), none), (.v (oMov (xT 7)), none), (.v (oBin .sub .no (xL 0) (ki 1)), none), (.v (oIaddr 1 (xL 2) (xL 0)), none), (.v (oLoad (xL 0)), none), (.c (cFn 256) [(xL 5), (xL 0)], none), (.v (oUn .not (xL 0)), none)] 0 [none, none, none, none, none, none, none, none, (some 0), none, none] [])
 (kCond (xT 8) (kExit 4)
 kSkip))
 (kDraw [(.v (oMov (xT 0)), none), (.v (oMov (xT 7)), none), (.v (oMov (xT 0)), none), (.v (oMov (xT 7)), none), (.v (oBin .sub .no (xL 0) (ki 1)), none), (.v (oMov (xT 0)), none), (.v (oMov (xT 7)), none), (.v (oBin .sub .no (xL 0) (ki 1)), none), (.v (oIaddr 1 (xL 2) (xL 0)), none), (.v (oLoad (xL 0)), none), (.v (oMov (xT 0)), none), (.v (oMov (xT 7)), none), (.v (oIaddr 1 (xL 1) (xL 0)), none), (.v (oLoad (xL 0)), none), (.v (oIaddr 1 (xL 13) (xL 12)), none), (.h (oStore 1 (xL 0) (xL 5)), none), (.v (oIaddr 1 (xL 13) (xL 11)), none), (.h (oStore 1 (xL 0) (xL 3)), none)] 0 [none, none, none, none, none, none, none, none, none, none, none] [])))
 (kReg (sV (oMov (xT 7)) (sV (oBin .sub .no (xL 0) (ki 1)) (sS 7 (xL 0) sEnd)))))))))
 kSkip)
 (kRegC (fun k => (sV (oBin .sub .no (xT 2) (xT 5)) (sV (oBin .geq .no (xL 0) (ki 2)) k))) (xL 0) (kSeq (kReg (sV (oBin .add .no (xT 5) (ki 1)) (sS 9 (xL 0) sEnd)))
 (kBlock 6 (kLoop (kSeq (kRegC (fun k => (sV (oBin .lss .no (xT 9) (xT 2)) k)) (xL 0) kSkip
 (kExit 6))
 (kSeq (kBlock 7 (kSeq (kSeq (kDraw [(.v (oMov (xT 0)), none), (.v (oMov (xT 9)), none), (.v (oIaddr 1 (xL 1) (xL 0)), none), (.v (oLoad (xL 0)), none), (.v (oMov (xT 0)), none), (.v (oMov (xT 9)), none), (.v (oBin .sub .no (xL 0) (ki 1)), none), (.v (oIaddr 1 (xL 2) (xL 0)), none), (.v (oLoad (xL 0)), none), (.c (cFn 256) [(xL 5), (xL 0)], none), (.v (oUn .not (xL 0)), none)] 0 [none, none, none, none, none, none, none, none, none, none, (some 0)] [])
 (kCond (xT 10) (kExit 6)
 kSkip))
 (kDraw [(.v (oMov (xT 0)), none), (.v (oMov (xT 9)), none), (.v (oMov (xT 0)), none), (.v (oMov (xT 9)), none), (.v (oBin .sub .no (xL 0) (ki 1)), none), (.v (oMov (xT 0)), none), (.v (oMov (xT 9)), none), (.v (oBin .sub .no (xL 0) (ki 1)), none), (.v (oIaddr 1 (xL 2) (xL 0)), none), (.v (oLoad (xL 0)), none), (.v (oMov (xT 0)), none), (.v (oMov (xT 9)), none), (.v (oIaddr 1 (xL 1) (xL 0)), none), (.v (oLoad (xL 0)), none), (.v (oIaddr 1 (xL 13) (xL 12)), none), (.h (oStore 1 (xL 0) (xL 5)), none), (.v (oIaddr 1 (xL 13) (xL 11)), none), (.h (oStore 1 (xL 0) (xL 3)), none)] 0 [none, none, none, none, none, none, none, none, none, none, none] [])))
 (kReg (sV (oMov (xT 9)) (sV (oBin .add .no (xL 0) (ki 1)) (sS 9 (xL 0) sEnd)))))))))
 kSkip)))))))
 (kReg (sV (oMov (xT 4)) (sV (oBin .add .no (xL 0) (ki 1)) (sS 4 (xL 0) sEnd)))))))))
 (kSeq (kReg (sS 3 (xK (bool false)) sEnd))
 kRet))))
theorem t289 : FF d289 Tryz.f289 a289 [(.t 3)] := ff Tryz.func289 (by kernel_rfl)
def x289 : XFn := .go a289 3 pd8 [(.t 3)]
def d290 : FD := ⟨290, 4, [8, 9, 10, 43, 59]⟩
def a290 : CodeF := (kSeq (kReg (sS 4 (ki 0) sEnd))
 (kSeq (kDraw [(.v (oMov (xT 0)), none), (.v (oMov (xT 1)), none), (.v (oMov (xT 0)), none), (.v (oMov (xT 3)), none), (.v (oMov (xT 0)), none), (.v (oMov (xT 3)), none), (.v (oIaddr 1 (xL 1) (xL 0)), none), (.v (oLoad (xL 0)), none), (.v (oMov (xT 0)), none), (.v (oMov (xT 1)), none), (.v (oIaddr 1 (xL 1) (xL 0)), none), (.v (oLoad (xL 0)), none), (.v (oIaddr 1 (xL 11) (xL 10)), none), (.h (oStore 1 (xL 0) (xL 5)), none), (.v (oIaddr 1 (xL 11) (xL 10)), none), (.h (oStore 1 (xL 0) (xL 3)), none)] 0 [none, none, none, none, none, none, none, none, none] [])
 (kSeq (kReg (sV (oBin .add .no (xT 1) (ki 1)) (sV (oBin .sub .no (xT 2) (ki 1)) (sS 5 (xL 1) (sS 6 (xL 0) sEnd)))))
 (kSeq (kBlock 0 (kLoop (kBlock 1 (kSeq (kBlock 2 (kLoop (kSeq (kSeq (kDraw [(.v (oMov (xT 5)), none), (.v (oMov (xT 6)), none), (.v (oBin .leq .no (xL 1) (xL 0)), none), (.v (oMov (xL 0)), none), (.v (oMov (xT 0)), (some ((xL 0), true))), (.v (oMov (xT 1)), (some ((xL 1), true))), (.v (oIaddr 1 (xL 1) (xL 0)), (some ((xL 2), true))), (.v (oLoad (xL 0)), (some ((xL 3), true))), (.v (oMov (xT 0)), (some ((xL 4), true))), (.v (oMov (xT 5)), (some ((xL 5), true))), (.v (oIaddr 1 (xL 1) (xL 0)), (some ((xL 6), true))), (.v (oLoad (xL 0)), (some ((xL 7), true))), (.c (cFn 256) [(xL 4), (xL 0)], (some ((xL 8), true))), (.v (oUn .not (xL 0)), (some ((xL 9), true))), (.v (oPick (xL 10) (xL 0) (xK (bool false))), none)] 0 [none, none, none, none, none, none, none, (some 0), none] [])
 (kCond (xT 7) kSkip
 (kExit 2)))
 (kBlock 3 (kReg (sV (oMov (xT 5)) (sV (oBin .add .no (xL 0) (ki 1)) (sS 5 (xL 0) sEnd))))))))
 (kSeq (kBlock 4 (kLoop (kSeq (kSeq (kDraw [(.v (oMov (xT 5)), none), (.v (oMov (xT 6)), none), (.v (oBin .leq .no (xL 1) (xL 0)), none), (.v (oMov (xL 0)), none), (.v (oMov (xT 0)), (some ((xL 0), true))), (.v (oMov (xT 1)), (some ((xL 1), true))), (.v (oIaddr 1 (xL 1) (xL 0)), (some ((xL 2), true))), (.v (oLoad (xL 0)), (some ((xL 3), true))), (.v (oMov (xT 0)), (some ((xL 4), true))), (.v (oMov (xT 6)), (some ((xL 5), true))), (.v (oIaddr 1 (xL 1) (xL 0)), (some ((xL 6), true))), (.v (oLoad (xL 0)), (some ((xL 7), true))), (.c (cFn 256) [(xL 4), (xL 0)], (some ((xL 8), true))), (.v (oPick (xL 9) (xL 0) (xK (bool false))), none)] 0 [none, none, none, none, none, none, none, none, (some 0)] [])
 (kCond (xT 8) kSkip
 (kExit 4)))
 (kBlock 5 (kReg (sV (oMov (xT 6)) (sV (oBin .sub .no (xL 0) (ki 1)) (sS 6 (xL 0) sEnd))))))))
 (kSeq (kRegC (fun k => (sV (oBin .gtr .no (xT 5) (xT 6)) k)) (xL 0) (kExit 0)
 kSkip)
 (kSeq (kDraw [(.v (oMov (xT 0)), none), (.v (oMov (xT 5)), none), (.v (oMov (xT 0)), none), (.v (oMov (xT 6)), none), (.v (oMov (xT 0)), none), (.v (oMov (xT 6)), none), (.v (oIaddr 1 (xL 1) (xL 0)), none), (.v (oLoad (xL 0)), none), (.v (oMov (xT 0)), none), (.v (oMov (xT 5)), none), (.v (oIaddr 1 (xL 1) (xL 0)), none), (.v (oLoad (xL 0)), none), (.v (oIaddr 1 (xL 11) (xL 10)), none), (.h (oStore 1 (xL 0) (xL 5)), none), (.v (oIaddr 1 (xL 11) (xL 10)), none), (.h (oStore 1 (xL 0) (xL 3)), none)] 0 [none, none, none, none, none, none, none, none, none] [])
 (kSeq (kReg (sV (oMov (xT 5)) (sV (oBin .add .no (xL 0) (ki 1)) (sS 5 (xL 0) sEnd))))
 (kReg (sV (oMov (xT 6)) (sV (oBin .sub .no (xL 0) (ki 1)) (sS 6 (xL 0) sEnd))))))))))))
 (kSeq (kReg (sS 4 (xT 5) sEnd))
 kRet)))))
theorem t290 : FF d290 Tryz.f290 a290 [(.t 4)] := ff Tryz.func290 (by kernel_rfl)
def x290 : XFn := .go a290 4 pd5 [(.t 4)]
def d291 : FD := ⟨291, 4, [8, 9, 10, 11, 43, 60, 112, 129]⟩
def a291 : CodeF := (kSeq (kReg (sS 4 (ki 0) (sS 5 (xK (bool false)) sEnd)))
 (kSeq (kDraw [(.v (oMov (xT 0)), none), (.v (oMov (xT 1)), none), (.v (oMov (xT 0)), none), (.v (oMov (xT 3)), none), (.v (oMov (xT 0)), none), (.v (oMov (xT 3)), none), (.v (oIaddr 1 (xL 1) (xL 0)), none), (.v (oLoad (xL 0)), none), (.v (oMov (xT 0)), none), (.v (oMov (xT 1)), none), (.v (oIaddr 1 (xL 1) (xL 0)), none), (.v (oLoad (xL 0)), none), (.v (oIaddr 1 (xL 11) (xL 10)), none), (.h (oStore 1 (xL 0) (xL 5)), none), (.v (oIaddr 1 (xL 11) (xL 10)), none), (.h (oStore 1 (xL 0) (xL 3)), none)] 0 [none, none, none, none, none, none, none, none, none, none, none, none] [])
 (kSeq (kReg (sV (oBin .add .no (xT 1) (ki 1)) (sV (oBin .sub .no (xT 2) (ki 1)) (sS 6 (xL 1) (sS 7 (xL 0) sEnd)))))
 (kSeq (kBlock 0 (kLoop (kSeq (kSeq (kDraw [(.v (oMov (xT 6)), none), (.v (oMov (xT 7)), none), (.v (oBin .leq .no (xL 1) (xL 0)), none), (.v (oMov (xL 0)), none), (.v (oMov (xT 0)), (some ((xL 0), true))), (.v (oMov (xT 6)), (some ((xL 1), true))), (.v (oIaddr 1 (xL 1) (xL 0)), (some ((xL 2), true))), (.v (oLoad (xL 0)), (some ((xL 3), true))), (.v (oMov (xT 0)), (some ((xL 4), true))), (.v (oMov (xT 1)), (some ((xL 5), true))), (.v (oIaddr 1 (xL 1) (xL 0)), (some ((xL 6), true))), (.v (oLoad (xL 0)), (some ((xL 7), true))), (.c (cFn 256) [(xL 4), (xL 0)], (some ((xL 8), true))), (.v (oPick (xL 9) (xL 0) (xK (bool false))), none)] 0 [none, none, none, none, none, none, none, none, (some 0), none, none, none] [])
 (kCond (xT 8) kSkip
 (kExit 0)))
 (kBlock 1 (kReg (sV (oMov (xT 6)) (sV (oBin .add .no (xL 0) (ki 1)) (sS 6 (xL 0) sEnd))))))))
 (kSeq (kBlock 2 (kLoop (kSeq (kSeq (kDraw [(.v (oMov (xT 6)), none), (.v (oMov (xT 7)), none), (.v (oBin .leq .no (xL 1) (xL 0)), none), (.v (oMov (xL 0)), none), (.v (oMov (xT 0)), (some ((xL 0), true))), (.v (oMov (xT 7)), (some ((xL 1), true))), (.v (oIaddr 1 (xL 1) (xL 0)), (some ((xL 2), true))), (.v (oLoad (xL 0)), (some ((xL 3), true))), (.v (oMov (xT 0)), (some ((xL 4), true))), (.v (oMov (xT 1)), (some ((xL 5), true))), (.v (oIaddr 1 (xL 1) (xL 0)), (some ((xL 6), true))), (.v (oLoad (xL 0)), (some ((xL 7), true))), (.c (cFn 256) [(xL 4), (xL 0)], (some ((xL 8), true))), (.v (oUn .not (xL 0)), (some ((xL 9), true))), (.v (oPick (xL 10) (xL 0) (xK (bool false))), none)] 0 [none, none, none, none, none, none, none, none, none, (some 0), none, none] [])
 (kCond (xT 9) kSkip
 (kExit 2)))
 (kBlock 3 (kReg (sV (oMov (xT 7)) (sV (oBin .sub .no (xL 0) (ki 1)) (sS 7 (xL 0) sEnd))))))))
 (kSeq (kRegC (fun k => (sV (oBin .gtr .no (xT 6) (xT 7)) k)) (xL 0) (kSeq (kDraw [(.v (oMov (xT 0)), none), (.v (oMov (xT 7)), none), (.v (oMov (xT 0)), none), (.v (oMov (xT 1)), none), (.v (oMov (xT 0)), none), (.v (oMov (xT 1)), none), (.v (oIaddr 1 (xL 1) (xL 0)), none), (.v (oLoad (xL 0)), none), (.v (oMov (xT 0)), none), (.v (oMov (xT 7)), none), (.v (oIaddr 1 (xL 1) (xL 0)), none), (.v (oLoad (xL 0)), none), (.v (oIaddr 1 (xL 11) (xL 10)), none), (.h (oStore 1 (xL 0) (xL 5)), none), (.v (oIaddr 1 (xL 11) (xL 10)), none), (.h (oStore 1 (xL 0) (xL 3)), none)] 0 [none, none, none, none, none, none, none, none, none, none, none, none] [])
 (kSeq (kReg (sS 4 (xT 7) (sS 5 (xK (bool true)) sEnd)))
 kRet))
 kSkip)
 (kSeq (kDraw [(.v (oMov (xT 0)), none), (.v (oMov (xT 6)), none), (.v (oMov (xT 0)), none), (.v (oMov (xT 7)), none), (.v (oMov (xT 0)), none), (.v (oMov (xT 7)), none), (.v (oIaddr 1 (xL 1) (xL 0)), none), (.v (oLoad (xL 0)), none), (.v (oMov (xT 0)), none), (.v (oMov (xT 6)), none), (.v (oIaddr 1 (xL 1) (xL 0)), none), (.v (oLoad (xL 0)), none), (.v (oIaddr 1 (xL 11) (xL 10)), none), (.h (oStore 1 (xL 0) (xL 5)), none), (.v (oIaddr 1 (xL 11) (xL 10)), none), (.h (oStore 1 (xL 0) (xL 3)), none)] 0 [none, none, none, none, none, none, none, none, none, none, none, none] [])
 (kSeq (kReg (sV (oMov (xT 6)) (sV (oBin .add .no (xL 0) (ki 1)) (sS 6 (xL 0) sEnd))))
 (kSeq (kReg (sV (oMov (xT 7)) (sV (oBin .sub .no (xL 0) (ki 1)) (sS 7 (xL 0) sEnd))))
 (kSeq (kBlock 4 (kLoop (kBlock 5 (kSeq (kBlock 6 (kLoop (kSeq (kSeq (kDraw [(.v (oMov (xT 6)), none), (.v (oMov (xT 7)), none), (.v (oBin .leq .no (xL 1) (xL 0)), none), (.v (oMov (xL 0)), none), (.v (oMov (xT 0)), (some ((xL 0), true))), (.v (oMov (xT 6)), (some ((xL 1), true))), (.v (oIaddr 1 (xL 1) (xL 0)), (some ((xL 2), true))), (.v (oLoad (xL 0)), (some ((xL 3), true))), (.v (oMov (xT 0)), (some ((xL 4), true))), (.v (oMov (xT 1)), (some ((xL 5), true))), (.v (oIaddr 1 (xL 1) (xL 0)), (some ((xL 6), true))), (.v (oLoad (xL 0)), (some ((xL 7), true))), (.c (cFn 256) [(xL 4), (xL 0)], (some ((xL 8), true))), (.v (oPick (xL 9) (xL 0) (xK (bool false))), none)] 0 [none, none, none, none, none, none, none, none, none, none, (some 0), none] [])
 (kCond (xT 10) kSkip
 (kExit 6)))
 (kBlock 7 (kReg (sV (oMov (xT 6)) (sV (oBin .add .no (xL 0) (ki 1)) (sS 6 (xL 0) sEnd))))))))
 (kSeq (kBlock 8 (kLoop (kSeq (kSeq (kDraw [(.v (oMov (xT 6)), none), (.v (oMov (xT 7)), none), (.v (oBin .leq .no (xL 1) (xL 0)), none), (.v (oMov (xL 0)), none), (.v (oMov (xT 0)), (some ((xL 0), true))), (.v (oMov (xT 7)), (some ((xL 1), true))), (.v (oIaddr 1 (xL 1) (xL 0)), (some ((xL 2), true))), (.v (oLoad (xL 0)), (some ((xL 3), true))), (.v (oMov (xT 0)), (some ((xL 4), true))), (.v (oMov (xT 1)), (some ((xL 5), true))), (.v (oIaddr 1 (xL 1) (xL 0)), (some ((xL 6), true))), (.v (oLoad (xL 0)), (some ((xL 7), true))), (.c (cFn 256) [(xL 4), (xL 0)], (some ((xL 8), true))), (.v (oUn .not (xL 0)), (some ((xL 9), true))), (.v (oPick (xL 10) (xL 0) (xK (bool false))), none)] 0 [none, none, none, none, none, none, none, none, none, none, none, (some 0)] [])
 (kCond (xT 11) kSkip
 (kExit 8)))
 (kBlock 9 (kReg (sV (oMov (xT 7)) (sV (oBin .sub .no (xL 0) (ki 1)) (sS 7 (xL 0) sEnd))))))))
 (kSeq (kRegC (fun k => (sV (oBin .gtr .no (xT 6) (xT 7)) k)) (xL 0) (kExit 4)
 kSkip)
 (kSeq (kDraw [(.v (oMov (xT 0)), none), (.v (oMov (xT 6)), none), (.v (oMov (xT 0)), none), (.v (oMov (xT 7)), none), (.v (oMov (xT 0)), none), (.v (oMov (xT 7)), none), (.v (oIaddr 1 (xL 1) (xL 0)), none), (.v (oLoad (xL 0)), none), (.v (oMov (xT 0)), none), (.v (oMov (xT 6)), none), (.v (oIaddr 1 (xL 1) (xL 0)), none), (.v (oLoad (xL 0)), none), (.v (oIaddr 1 (xL 11) (xL 10)), none), (.h (oStore 1 (xL 0) (xL 5)), none), (.v (oIaddr 1 (xL 11) (xL 10)), none), (.h (oStore 1 (xL 0) (xL 3)), none)] 0 [none, none, none, none, none, none, none, none, none, none, none, none] [])
 (kSeq (kReg (sV (oMov (xT 6)) (sV (oBin .add .no (xL 0) (ki 1)) (sS 6 (xL 0) sEnd))))
 (kReg (sV (oMov (xT 7)) (sV (oBin .sub .no (xL 0) (ki 1)) (sS 7 (xL 0) sEnd))))))))))))
 (kSeq (kDraw [(.v (oMov (xT 0)), none), (.v (oMov (xT 7)), none), (.v (oMov (xT 0)), none), (.v (oMov (xT 1)), none), (.v (oMov (xT 0)), none), (.v (oMov (xT 1)), none), (.v (oIaddr 1 (xL 1) (xL 0)), none), (.v (oLoad (xL 0)), none), (.v (oMov (xT 0)), none), (.v (oMov (xT 7)), none), (.v (oIaddr 1 (xL 1) (xL 0)), none), (.v (oLoad (xL 0)), none), (.v (oIaddr 1 (xL 11) (xL 10)), none), (.h (oStore 1 (xL 0) (xL 5)), none), (.v (oIaddr 1 (xL 11) (xL 10)), none), (.h (oStore 1 (xL 0) (xL 3)), none)] 0 [none, none, none, none, none, none, none, none, none, none, none, none] [])
 (kSeq (kReg (sS 4 (xT 7) (sS 5 (xK (bool false)) sEnd)))
 kRet))))))))))))
theorem t291 : FF d291 Tryz.f291 a291 [(.t 4), (.t 5)] := ff Tryz.func291 (by kernel_rfl)
def x291 : XFn := .go a291 4 pd8 [(.t 4), (.t 5)]
def d292 : FD := ⟨292, 1, [2]⟩
def a292 : CodeF := (kSeq (kReg (sS 1 (ki 0) sEnd))
 (kSeq (kRegC (fun k => (sV (oBin .geq .no (xT 0) (xK (int .u32 (.ofNat 65536)))) k)) (xL 0) (kSeq (kReg (sV (oMov (xT 0)) (sV (oBin .shr .no (xL 0) (xK (int .u64 (.ofNat 16)))) (sS 0 (xL 0) sEnd))))
 (kReg (sS 1 (ki 16) sEnd)))
 kSkip)
 (kSeq (kRegC (fun k => (sV (oBin .geq .no (xT 0) (xK (int .u32 (.ofNat 256)))) k)) (xL 0) (kSeq (kReg (sV (oMov (xT 0)) (sV (oBin .shr .no (xL 0) (xK (int .u64 (.ofNat 8)))) (sS 0 (xL 0) sEnd))))
 (kReg (sV (oMov (xT 1)) (sV (oBin .add .no (xL 0) (ki 8)) (sS 1 (xL 0) sEnd)))))
 kSkip)
 (kSeq (kReg (sV (oMov (xT 1)) (sV (oConv .u8 (xT 0)) (sV (oIdx (xK (str [0, 1, 2, 2, 3, 3, 3, 3, 4, 4, 4, 4, 4, 4, 4, 4, 5, 5, 5, 5, 5, 5, 5, 5, 5, 5, 5, 5, 5, 5, 5, 5, 6, 6, 6, 6, 6, 6, 6, 6, 6, 6, 6, 6, 6, 6, 6, 6, 6, 6, 6, 6, 6, 6, 6, 6, 6, 6, 6, 6, 6, 6, 6, 6, 7, 7, 7, 7, 7, 7, 7, 7, 7, 7, 7, 7, 7, 7, 7, 7, 7, 7, 7, 7, 7, 7, 7, 7, 7, 7, 7, 7, 7, 7, 7, 7, 7, 7, 7, 7, 7, 7, 7, 7, 7, 7, 7, 7, 7, 7, 7, 7, 7, 7, 7, 7, 7, 7, 7, 7, 7, 7, 7, 7, 7, 7, 7, 7, 8, 8, 8, 8, 8, 8, 8, 8, 8, 8, 8, 8, 8, 8, 8, 8, 8, 8, 8, 8, 8, 8, 8, 8, 8, 8, 8, 8, 8, 8, 8, 8, 8, 8, 8, 8, 8, 8, 8, 8, 8, 8, 8, 8, 8, 8, 8, 8, 8, 8, 8, 8, 8, 8, 8, 8, 8, 8, 8, 8, 8, 8, 8, 8, 8, 8, 8, 8, 8, 8, 8, 8, 8, 8, 8, 8, 8, 8, 8, 8, 8, 8, 8, 8, 8, 8, 8, 8, 8, 8, 8, 8, 8, 8, 8, 8, 8, 8, 8, 8, 8, 8, 8, 8, 8, 8, 8, 8, 8, 8, 8, 8, 8, 8, 8, 8, 8, 8, 8, 8, 8, 8, 8, 8, 8, 8, 8, 8])) (xL 0)) (sV (oConv .i64 (xL 0)) (sV (oBin .add .no (xL 3) (xL 0)) (sS 1 (xL 0) sEnd)))))))
 kRet))))
theorem t292 : FF d292 Tryz.f292 a292 [(.t 1)] := ff Tryz.func292 (by kernel_rfl)
def x292 : XFn := .go a292 1 pd1 [(.t 1)]
def d293 : FD := ⟨293, 3, [6, 7, 30]⟩
def a293 : CodeF := (kSeq (kReg (sV (oBin .add .no (xT 1) (ki 1)) (sS 3 (xL 0) sEnd)))
 (kBlock 0 (kLoop (kSeq (kRegC (fun k => (sV (oBin .lss .no (xT 3) (xT 2)) k)) (xL 0) kSkip
 (kExit 0))
 (kSeq (kBlock 1 (kSeq (kReg (sS 4 (xT 3) sEnd))
 (kBlock 2 (kLoop (kSeq (kSeq (kDraw [(.v (oMov (xT 4)), none), (.v (oMov (xT 1)), none), (.v (oBin .gtr .no (xL 1) (xL 0)), none), (.v (oMov (xL 0)), none), (.v (oMov (xT 0)), (some ((xL 0), true))), (.v (oMov (xT 4)), (some ((xL 1), true))), (.v (oIaddr 1 (xL 1) (xL 0)), (some ((xL 2), true))), (.v (oLoad (xL 0)), (some ((xL 3), true))), (.v (oMov (xT 0)), (some ((xL 4), true))), (.v (oMov (xT 4)), (some ((xL 5), true))), (.v (oBin .sub .no (xL 0) (ki 1)), (some ((xL 6), true))), (.v (oIaddr 1 (xL 2) (xL 0)), (some ((xL 7), true))), (.v (oLoad (xL 0)), (some ((xL 8), true))), (.c (cFn 299) [(xL 5), (xL 0)], (some ((xL 9), true))), (.v (oPick (xL 10) (xL 0) (xK (bool false))), none)] 0 [none, none, none, none, none, (some 0)] [])
 (kCond (xT 5) kSkip
 (kExit 2)))
 (kSeq (kBlock 3 (kDraw [(.v (oMov (xT 0)), none), (.v (oMov (xT 4)), none), (.v (oMov (xT 0)), none), (.v (oMov (xT 4)), none), (.v (oBin .sub .no (xL 0) (ki 1)), none), (.v (oMov (xT 0)), none), (.v (oMov (xT 4)), none), (.v (oBin .sub .no (xL 0) (ki 1)), none), (.v (oIaddr 1 (xL 2) (xL 0)), none), (.v (oLoad (xL 0)), none), (.v (oMov (xT 0)), none), (.v (oMov (xT 4)), none), (.v (oIaddr 1 (xL 1) (xL 0)), none), (.v (oLoad (xL 0)), none), (.v (oIaddr 1 (xL 13) (xL 12)), none), (.h (oStore 1 (xL 0) (xL 5)), none), (.v (oIaddr 1 (xL 13) (xL 11)), none), (.h (oStore 1 (xL 0) (xL 3)), none)] 0 [none, none, none, none, none, none] []))
 (kReg (sV (oMov (xT 4)) (sV (oBin .sub .no (xL 0) (ki 1)) (sS 4 (xL 0) sEnd))))))))))
 (kReg (sV (oMov (xT 3)) (sV (oBin .add .no (xL 0) (ki 1)) (sS 3 (xL 0) sEnd)))))))))
theorem t293 : FF d293 Tryz.f293 a293 [] := ff Tryz.func293 (by kernel_rfl)
def x293 : XFn := .go a293 3 pd3 []
def d294 : FD := ⟨294, 3, [8, 9, 6, 10, 7]⟩
def a294 : CodeF := (kSeq (kReg (sS 5 (xT 1) sEnd))
 (kSeq (kReg (sS 7 (ki 0) sEnd))
 (kSeq (kReg (sV (oBin .sub .no (xT 2) (xT 1)) (sS 3 (xL 0) sEnd)))
 (kSeq (kSeq (kReg (sV (oBin .sub .no (xT 3) (ki 1)) (sV (oBin .quo .no (xL 0) (ki 2)) (sS 4 (xL 0) sEnd))))
 (kBlock 0 (kLoop (kSeq (kRegC (fun k => (sV (oBin .geq .no (xT 4) (ki 0)) k)) (xL 0) kSkip
 (kExit 0))
 (kSeq (kBlock 1 (kReg (sC (cFn 345) [(xT 0), (xT 4), (xT 3), (xT 5)] sEnd)))
 (kReg (sV (oMov (xT 4)) (sV (oBin .sub .no (xL 0) (ki 1)) (sS 4 (xL 0) sEnd)))))))))
 (kSeq (kReg (sV (oBin .sub .no (xT 3) (ki 1)) (sS 6 (xL 0) sEnd)))
 (kBlock 2 (kLoop (kSeq (kRegC (fun k => (sV (oBin .geq .no (xT 6) (ki 0)) k)) (xL 0) kSkip
 (kExit 2))
 (kSeq (kBlock 3 (kSeq (kDraw [(.v (oMov (xT 0)), none), (.v (oMov (xT 5)), none), (.v (oMov (xT 0)), none), (.v (oMov (xT 5)), none), (.v (oMov (xT 6)), none), (.v (oBin .add .no (xL 1) (xL 0)), none), (.v (oMov (xT 0)), none), (.v (oMov (xT 5)), none), (.v (oMov (xT 6)), none), (.v (oBin .add .no (xL 1) (xL 0)), none), (.v (oIaddr 1 (xL 3) (xL 0)), none), (.v (oLoad (xL 0)), none), (.v (oMov (xT 0)), none), (.v (oMov (xT 5)), none), (.v (oIaddr 1 (xL 1) (xL 0)), none), (.v (oLoad (xL 0)), none), (.v (oIaddr 1 (xL 15) (xL 14)), none), (.h (oStore 1 (xL 0) (xL 5)), none), (.v (oIaddr 1 (xL 15) (xL 12)), none), (.h (oStore 1 (xL 0) (xL 3)), none)] 0 [none, none, none, none, none, none, none, none] [])
 (kReg (sC (cFn 345) [(xT 0), (xT 7), (xT 6), (xT 5)] sEnd))))
 (kReg (sV (oMov (xT 6)) (sV (oBin .sub .no (xL 0) (ki 1)) (sS 6 (xL 0) sEnd)))))))))))))
theorem t294 : FF d294 Tryz.f294 a294 [] := ff Tryz.func294 (by kernel_rfl)
def x294 : XFn := .go a294 3 pd5 []
def d295 : FD := ⟨295, 3, [6, 9, 8, 7, 10]⟩
def a295 : CodeF := (kSeq (kReg (sV (oBin .sub .no (xT 2) (xT 1)) (sS 3 (xL 0) sEnd)))
 (kRegC (fun k => (sV (oBin .geq .no (xT 3) (ki 8)) k)) (xL 0) (kSeq (kReg (sV (oConv .u64 (xT 3)) (sH (oAlloc 470 1 [(int .u64 (.ofNat 0))]) (sS 6 (xL 0) (sH (oStore 1 (xT 6) (xL 1)) sEnd)))))
 (kSeq (kReg (sC (cFn 341) [(xT 3)] (sS 5 (xL 0) sEnd)))
 (kSeq (kReg (sV (oBin .quo .no (xT 3) (ki 4)) (sV (oBin .mul .no (xL 0) (ki 2)) (sV (oBin .add .no (xT 1) (xL 0)) (sV (oBin .sub .no (xL 0) (ki 1)) (sS 4 (xL 0) sEnd))))))
 (kBlock 0 (kLoop (kSeq (kRegC (fun k => (sV (oBin .quo .no (xT 3) (ki 4)) (sV (oBin .mul .no (xL 0) (ki 2)) (sV (oBin .add .no (xT 1) (xL 0)) (sV (oBin .add .no (xL 0) (ki 1)) (sV (oBin .leq .no (xT 4) (xL 0)) k)))))) (xL 0) kSkip
 (kExit 0))
 (kSeq (kBlock 1 (kSeq (kReg (sC (cFn 342) [(xT 6)] (sV (oBin .sub .no (xT 5) (xK (int .u64 (.ofNat 1)))) (sV (oBin .and .no (xL 1) (xL 0)) (sV (oConv .i64 (xL 0)) (sS 7 (xL 0) sEnd))))))
 (kSeq (kRegC (fun k => (sV (oBin .geq .no (xT 7) (xT 3)) k)) (xL 0) (kReg (sV (oMov (xT 7)) (sV (oBin .sub .no (xL 0) (xT 3)) (sS 7 (xL 0) sEnd))))
 kSkip)
 (kDraw [(.v (oMov (xT 0)), none), (.v (oMov (xT 4)), none), (.v (oMov (xT 0)), none), (.v (oMov (xT 1)), none), (.v (oMov (xT 7)), none), (.v (oBin .add .no (xL 1) (xL 0)), none), (.v (oMov (xT 0)), none), (.v (oMov (xT 1)), none), (.v (oMov (xT 7)), none), (.v (oBin .add .no (xL 1) (xL 0)), none), (.v (oIaddr 1 (xL 3) (xL 0)), none), (.v (oLoad (xL 0)), none), (.v (oMov (xT 0)), none), (.v (oMov (xT 4)), none), (.v (oIaddr 1 (xL 1) (xL 0)), none), (.v (oLoad (xL 0)), none), (.v (oIaddr 1 (xL 15) (xL 14)), none), (.h (oStore 1 (xL 0) (xL 5)), none), (.v (oIaddr 1 (xL 15) (xL 12)), none), (.h (oStore 1 (xL 0) (xL 3)), none)] 0 [none, none, none, none, none, none, none, none] []))))
 (kReg (sV (oMov (xT 4)) (sV (oBin .add .no (xL 0) (ki 1)) (sS 4 (xL 0) sEnd)))))))))))
 kSkip))
theorem t295 : FF d295 Tryz.f295 a295 [] := ff Tryz.func295 (by kernel_rfl)
def x295 : XFn := .go a295 3 pd5 []
def d296 : FD := ⟨296, 3, [6, 7, 8, 9, 10, 11, 12, 49]⟩
def a296 : CodeF := (kSeq (kReg (sS 3 (ki 0) (sS 4 (ki 0) sEnd)))
 (kSeq (kReg (sV (oBin .sub .no (xT 2) (xT 1)) (sS 5 (xL 0) sEnd)))
 (kSeq (kReg (sH (oAlloc 3 1 [(int .i64 (.ofNat 0))]) (sS 6 (xL 0) sEnd)))
 (kSeq (kReg (sV (oBin .quo .no (xT 5) (ki 4)) (sV (oBin .mul .no (xL 0) (ki 1)) (sV (oBin .add .no (xT 1) (xL 0)) (sS 7 (xL 0) sEnd)))))
 (kSeq (kReg (sV (oBin .quo .no (xT 5) (ki 4)) (sV (oBin .mul .no (xL 0) (ki 2)) (sV (oBin .add .no (xT 1) (xL 0)) (sS 8 (xL 0) sEnd)))))
 (kSeq (kReg (sV (oBin .quo .no (xT 5) (ki 4)) (sV (oBin .mul .no (xL 0) (ki 3)) (sV (oBin .add .no (xT 1) (xL 0)) (sS 9 (xL 0) sEnd)))))
 (kSeq (kRegC (fun k => (sV (oBin .geq .no (xT 5) (ki 8)) k)) (xL 0) (kSeq (kRegC (fun k => (sV (oBin .geq .no (xT 5) (ki 50)) k)) (xL 0) (kSeq (kReg (sV (oMov (xT 7)) (sC (cFn 346) [(xT 0), (xL 0), (xT 6)] (sS 7 (xL 0) sEnd))))
 (kSeq (kReg (sV (oMov (xT 8)) (sC (cFn 346) [(xT 0), (xL 0), (xT 6)] (sS 8 (xL 0) sEnd))))
 (kReg (sV (oMov (xT 9)) (sC (cFn 346) [(xT 0), (xL 0), (xT 6)] (sS 9 (xL 0) sEnd))))))
 kSkip)
 (kReg (sV (oMov (xT 8)) (sC (cFn 347) [(xT 0), (xT 7), (xL 0), (xT 9), (xT 6)] (sS 8 (xL 0) sEnd)))))
 kSkip)
 (kSeq (kReg (sV (oLoad (xT 6)) (sS 10 (xL 0) sEnd)))
 (kBlock 0 (kRegC (fun k => (sV (oBin .eql .no (xT 10) (ki 0)) k)) (xL 0) (kSeq (kReg (sS 3 (xT 8) (sS 4 (ki 1) sEnd)))
 kRet)
 (kRegC (fun k => (sV (oBin .eql .no (xT 10) (ki 12)) k)) (xL 0) (kSeq (kReg (sS 3 (xT 8) (sS 4 (ki 2) sEnd)))
 kRet)
 (kSeq (kReg (sS 3 (xT 8) (sS 4 (ki 0) sEnd)))
 kRet))))))))))))
theorem t296 : FF d296 Tryz.f296 a296 [(.t 3), (.t 4)] := ff Tryz.func296 (by kernel_rfl)
def x296 : XFn := .go a296 3 pd8 [(.t 3), (.t 4)]
def d297 : FD := ⟨297, 3, [7, 6]⟩
def a297 : CodeF := (kSeq (kReg (sS 4 (xT 1) sEnd))
 (kSeq (kReg (sV (oBin .sub .no (xT 2) (ki 1)) (sS 3 (xL 0) sEnd)))
 (kBlock 0 (kLoop (kSeq (kRegC (fun k => (sV (oBin .lss .no (xT 4) (xT 3)) k)) (xL 0) kSkip
 (kExit 0))
 (kBlock 1 (kSeq (kDraw [(.v (oMov (xT 0)), none), (.v (oMov (xT 4)), none), (.v (oMov (xT 0)), none), (.v (oMov (xT 3)), none), (.v (oMov (xT 0)), none), (.v (oMov (xT 3)), none), (.v (oIaddr 1 (xL 1) (xL 0)), none), (.v (oLoad (xL 0)), none), (.v (oMov (xT 0)), none), (.v (oMov (xT 4)), none), (.v (oIaddr 1 (xL 1) (xL 0)), none), (.v (oLoad (xL 0)), none), (.v (oIaddr 1 (xL 11) (xL 10)), none), (.h (oStore 1 (xL 0) (xL 5)), none), (.v (oIaddr 1 (xL 11) (xL 10)), none), (.h (oStore 1 (xL 0) (xL 3)), none)] 0 [none, none, none, none, none] [])
 (kSeq (kReg (sV (oMov (xT 4)) (sV (oBin .add .no (xL 0) (ki 1)) (sS 4 (xL 0) sEnd))))
 (kReg (sV (oMov (xT 3)) (sV (oBin .sub .no (xL 0) (ki 1)) (sS 3 (xL 0) sEnd))))))))))))
theorem t297 : FF d297 Tryz.f297 a297 [] := ff Tryz.func297 (by kernel_rfl)
def x297 : XFn := .go a297 3 pd2 []
def d298 : FD := ⟨298, 3, [6, 8, 7, 32, 9, 78, 10, 116]⟩
def a298 : CodeF := (kSeq (kReg (sS 3 (xK (bool false)) sEnd))
 (kSeq (kReg (sV (oBin .add .no (xT 1) (ki 1)) (sS 5 (xL 0) sEnd)))
 (kSeq (kSeq (kReg (sS 4 (ki 0) sEnd))
 (kBlock 0 (kLoop (kSeq (kRegC (fun k => (sV (oBin .lss .no (xT 4) (ki 5)) k)) (xL 0) kSkip
 (kExit 0))
 (kSeq (kBlock 1 (kSeq (kBlock 2 (kLoop (kSeq (kSeq (kDraw [(.v (oMov (xT 5)), none), (.v (oMov (xT 2)), none), (.v (oBin .lss .no (xL 1) (xL 0)), none), (.v (oMov (xL 0)), none), (.v (oMov (xT 0)), (some ((xL 0), true))), (.v (oMov (xT 5)), (some ((xL 1), true))), (.v (oIaddr 1 (xL 1) (xL 0)), (some ((xL 2), true))), (.v (oLoad (xL 0)), (some ((xL 3), true))), (.v (oMov (xT 0)), (some ((xL 4), true))), (.v (oMov (xT 5)), (some ((xL 5), true))), (.v (oBin .sub .no (xL 0) (ki 1)), (some ((xL 6), true))), (.v (oIaddr 1 (xL 2) (xL 0)), (some ((xL 7), true))), (.v (oLoad (xL 0)), (some ((xL 8), true))), (.c (cFn 299) [(xL 5), (xL 0)], (some ((xL 9), true))), (.v (oUn .not (xL 0)), (some ((xL 10), true))), (.v (oPick (xL 11) (xL 0) (xK (bool false))), none)] 0 [none, none, none, none, none, none, (some 0), none, none, none, none] [])
 (kCond (xT 6) kSkip
 (kExit 2)))
 (kBlock 3 (kReg (sV (oMov (xT 5)) (sV (oBin .add .no (xL 0) (ki 1)) (sS 5 (xL 0) sEnd))))))))
 (kSeq (kRegC (fun k => (sV (oBin .eql .no (xT 5) (xT 2)) k)) (xL 0) (kSeq (kReg (sS 3 (xK (bool true)) sEnd))
 kRet)
 kSkip)
 (kSeq (kRegC (fun k => (sV (oBin .sub .no (xT 2) (xT 1)) (sV (oBin .lss .no (xL 0) (ki 50)) k))) (xL 0) (kSeq (kReg (sS 3 (xK (bool false)) sEnd))
 kRet)
 kSkip)
 (kSeq (kDraw [(.v (oMov (xT 0)), none), (.v (oMov (xT 5)), none), (.v (oMov (xT 0)), none), (.v (oMov (xT 5)), none), (.v (oBin .sub .no (xL 0) (ki 1)), none), (.v (oMov (xT 0)), none), (.v (oMov (xT 5)), none), (.v (oBin .sub .no (xL 0) (ki 1)), none), (.v (oIaddr 1 (xL 2) (xL 0)), none), (.v (oLoad (xL 0)), none), (.v (oMov (xT 0)), none), (.v (oMov (xT 5)), none), (.v (oIaddr 1 (xL 1) (xL 0)), none), (.v (oLoad (xL 0)), none), (.v (oIaddr 1 (xL 13) (xL 12)), none), (.h (oStore 1 (xL 0) (xL 5)), none), (.v (oIaddr 1 (xL 13) (xL 11)), none), (.h (oStore 1 (xL 0) (xL 3)), none)] 0 [none, none, none, none, none, none, none, none, none, none, none] [])
 (kSeq (kRegC (fun k => (sV (oBin .sub .no (xT 5) (xT 1)) (sV (oBin .geq .no (xL 0) (ki 2)) k))) (xL 0) (kSeq (kReg (sV (oBin .sub .no (xT 5) (ki 1)) (sS 7 (xL 0) sEnd)))
 (kBlock 4 (kLoop (kSeq (kRegC (fun k => (sV (oBin .geq .no (xT 7) (ki 1)) k)) (xL 0) kSkip
 (kExit 4))
 (kSeq (kBlock 5 (kSeq (kSeq (kDraw [(.v (oMov (xT 0)), none), (.v (oMov (xT 7)), none), (.v (oIaddr 1 (xL 1) (xL 0)), none), (.v (oLoad (xL 0)), none), (.v (oMov (xT 0)), none), (.v (oMov (xT 7)), none), (.v (oBin .sub .no (xL 0) (ki 1)), none), (.v (oIaddr 1 (xL 2) (xL 0)), none), (.v (oLoad (xL 0)), none), (.c (cFn 299) [(xL 5), (xL 0)], none), (.v (oUn .not (xL 0)), none)] 0 [none, none, none, none, none, none, none, none, (some 0), none, none] [])
 (kCond (xT 8) (kExit 4)
 kSkip))
 (kDraw [(.v (oMov (xT 0)), none), (.v (oMov (xT 7)), none), (.v (oMov (xT 0)), none), (.v (oMov (xT 7)), none), (.v (oBin .sub .no (xL 0) (ki 1)), none), (.v (oMov (xT 0)), none), (.v (oMov (xT 7)), none), (.v (oBin .sub .no (xL 0) (ki 1)), none), (.v (oIaddr 1 (xL 2) (xL 0)), none), (.v (oLoad (xL 0)), none), (.v (oMov (xT 0)), none), (.v (oMov (xT 7)), none), (.v (oIaddr 1 (xL 1) (xL 0)), none), (.v (oLoad (xL 0)), none), (.v (oIaddr 1 (xL 13) (xL 12)), none), (.h (oStore 1 (xL 0) (xL 5)), none), (.v (oIaddr 1 (xL 13) (xL 11)), none), (.h (oStore 1 (xL 0) (xL 3)), none)] 0 [none, none, none, none, none, none, none, none, none, none, none] [])))
 (kReg (sV (oMov (xT 7)) (sV (oBin .sub .no (xL 0) (ki 1)) (sS 7 (xL 0) sEnd)))))))))
 kSkip)
 (kRegC (fun k => (sV (oBin .sub .no (xT 2) (xT 5)) (sV (oBin .geq .no (xL 0) (ki 2)) k))) (xL 0) (kSeq (kReg (sV (oBin .add .no (xT 5) (ki 1)) (sS 9 (xL 0) sEnd)))
 (kBlock 6 (kLoop (kSeq (kRegC (fun k => (sV (oBin .lss .no (xT 9) (xT 2)) k)) (xL 0) kSkip
 (kExit 6))
 (kSeq (kBlock 7 (kSeq (kSeq (kDraw [(.v (oMov (xT 0)), none), (.v (oMov (xT 9)), none), (.v (oIaddr 1 (xL 1) (xL 0)), none), (.v (oLoad (xL 0)), none), (.v (oMov (xT 0)), none), (.v (oMov (xT 9)), none), (.v (oBin .sub .no (xL 0) (ki 1)), none), (.v (oIaddr 1 (xL 2) (xL 0)), none), (.v (oLoad (xL 0)), none), (.c (cFn 299) [(xL 5), (xL 0)], none), (.v (oUn .not (xL 0)), none)] 0 [none, none, none, none, none, none, none, none, none, none, (some 0)] [])
 (kCond (xT 10) (kExit 6)
 kSkip))
 (kDraw [(.v (oMov (xT 0)), none), (.v (oMov (xT 9)), none), (.v (oMov (xT 0)), none), (.v (oMov (xT 9)), none), (.v (oBin .sub .no (xL 0) (ki 1)), none), (.v (oMov (xT 0)), none), (.v (oMov (xT 9)), none), (.v (oBin .sub .no (xL 0) (ki 1)), none), (.v (oIaddr 1 (xL 2) (xL 0)), none), (.v (oLoad (xL 0)), none), (.v (oMov (xT 0)), none), (.v (oMov (xT 9)), none), (.v (oIaddr 1 (xL 1) (xL 0)), none), (.v (oLoad (xL 0)), none), (.v (oIaddr 1 (xL 13) (xL 12)), none), (.h (oStore 1 (xL 0) (xL 5)), none), (.v (oIaddr 1 (xL 13) (xL 11)), none), (.h (oStore 1 (xL 0) (xL 3)), none)] 0 [none, none, none, none, none, none, none, none, none, none, none] [])))
 (kReg (sV (oMov (xT 9)) (sV (oBin .add .no (xL 0) (ki 1)) (sS 9 (xL 0) sEnd)))))))))
 kSkip)))))))
 (kReg (sV (oMov (xT 4)) (sV (oBin .add .no (xL 0) (ki 1)) (sS 4 (xL 0) sEnd)))))))))
 (kSeq (kReg (sS 3 (xK (bool false)) sEnd))
 kRet))))
theorem t298 : FF d298 Tryz.f298 a298 [(.t 3)] := ff Tryz.func298 (by kernel_rfl)
def x298 : XFn := .go a298 3 pd8 [(.t 3)]
def d299 : FD := ⟨299, 2, [4]⟩
def a299 : CodeF := (kSeq (kReg (sS 2 (xK (bool false)) sEnd))
 (kSeq (kReg (sC (cFn 348) [(xT 0)] (sG (xL 0) true (sV (oMov (xT 1))) (sG (xL 1) true (sC (cFn 348) [(xL 0)]) (sG (xL 2) true (sV (oUn .not (xL 0))) (sV (oPick (xL 3) (xL 0) (xK (bool false))) (sG (xL 0) false (sV (oMov (xT 0))) (sG (xL 1) false (sV (oMov (xT 1))) (sG (xL 2) false (sV (oBin .lss .no (xL 1) (xL 0))) (sV (oPick (xL 3) (xK (bool true)) (xL 0)) (sS 2 (xL 0) sEnd)))))))))))
 kRet))
theorem t299 : FF d299 Tryz.f299 a299 [(.t 2)] := ff Tryz.func299 (by kernel_rfl)
def x299 : XFn := .go a299 2 pd1 [(.t 2)]
def d300 : FD := ⟨300, 4, [8, 9, 10, 43, 59]⟩
def a300 : CodeF := (kSeq (kReg (sS 4 (ki 0) sEnd))
 (kSeq (kDraw [(.v (oMov (xT 0)), none), (.v (oMov (xT 1)), none), (.v (oMov (xT 0)), none), (.v (oMov (xT 3)), none), (.v (oMov (xT 0)), none), (.v (oMov (xT 3)), none), (.v (oIaddr 1 (xL 1) (xL 0)), none), (.v (oLoad (xL 0)), none), (.v (oMov (xT 0)), none), (.v (oMov (xT 1)), none), (.v (oIaddr 1 (xL 1) (xL 0)), none), (.v (oLoad (xL 0)), none), (.v (oIaddr 1 (xL 11) (xL 10)), none), (.h (oStore 1 (xL 0) (xL 5)), none), (.v (oIaddr 1 (xL 11) (xL 10)), none), (.h (oStore 1 (xL 0) (xL 3)), none)] 0 [none, none, none, none, none, none, none, none, none] [])
 (kSeq (kReg (sV (oBin .add .no (xT 1) (ki 1)) (sV (oBin .sub .no (xT 2) (ki 1)) (sS 5 (xL 1) (sS 6 (xL 0) sEnd)))))
 (kSeq (kBlock 0 (kLoop (kBlock 1 (kSeq (kBlock 2 (kLoop (kSeq (kSeq (kDraw [(.v (oMov (xT 5)), none), (.v (oMov (xT 6)), none), (.v (oBin .leq .no (xL 1) (xL 0)), none), (.v (oMov (xL 0)), none), (.v (oMov (xT 0)), (some ((xL 0), true))), (.v (oMov (xT 1)), (some ((xL 1), true))), (.v (oIaddr 1 (xL 1) (xL 0)), (some ((xL 2), true))), (.v (oLoad (xL 0)), (some ((xL 3), true))), (.v (oMov (xT 0)), (some ((xL 4), true))), (.v (oMov (xT 5)), (some ((xL 5), true))), (.v (oIaddr 1 (xL 1) (xL 0)), (some ((xL 6), true))), (.v (oLoad (xL 0)), (some ((xL 7), true))), (.c (cFn 299) [(xL 4), (xL 0)], (some ((xL 8), true))), (.v (oUn .not (xL 0)), (some ((xL 9), true))), (.v (oPick (xL 10) (xL 0) (xK (bool false))), none)] 0 [none, none, none, none, none, none, none, (some 0), none] [])
 (kCond (xT 7) kSkip
 (kExit 2)))
 (kBlock 3 (kReg (sV (oMov (xT 5)) (sV (oBin .add .no (xL 0) (ki 1)) (sS 5 (xL 0) sEnd))))))))
 (kSeq (kBlock 4 (kLoop (kSeq (kSeq (kDraw [(.v (oMov (xT 5)), none), (.v (oMov (xT 6)), none), (.v (oBin .leq .no (xL 1) (xL 0)), none), (.v (oMov (xL 0)), none), (.v (oMov (xT 0)), (some ((xL 0), true))), (.v (oMov (xT 1)), (some ((xL 1), true))), (.v (oIaddr 1 (xL 1) (xL 0)), (some ((xL 2), true))), (.v (oLoad (xL 0)), (some ((xL 3), true))), (.v (oMov (xT 0)), (some ((xL 4), true))), (.v (oMov (xT 6)), (some ((xL 5), true))), (.v (oIaddr 1 (xL 1) (xL 0)), (some ((xL 6), true))), (.v (oLoad (xL 0)), (some ((xL 7), true))), (.c (cFn 299) [(xL 4), (xL 0)], (some ((xL 8), true))), (.v (oPick (xL 9) (xL 0) (xK (bool false))), none)] 0 [none, none, none, none, none, none, none, none, (some 0)] [])
 (kCond (xT 8) kSkip
 (kExit 4)))
 (kBlock 5 (kReg (sV (oMov (xT 6)) (sV (oBin .sub .no (xL 0) (ki 1)) (sS 6 (xL 0) sEnd))))))))
 (kSeq (kRegC (fun k => (sV (oBin .gtr .no (xT 5) (xT 6)) k)) (xL 0) (kExit 0)
 kSkip)
 (kSeq (kDraw [(.v (oMov (xT 0)), none), (.v (oMov (xT 5)), none), (.v (oMov (xT 0)), none), (.v (oMov (xT 6)), none), (.v (oMov (xT 0)), none), (.v (oMov (xT 6)), none), (.v (oIaddr 1 (xL 1) (xL 0)), none), (.v (oLoad (xL 0)), none), (.v (oMov (xT 0)), none), (.v (oMov (xT 5)), none), (.v (oIaddr 1 (xL 1) (xL 0)), none), (.v (oLoad (xL 0)), none), (.v (oIaddr 1 (xL 11) (xL 10)), none), (.h (oStore 1 (xL 0) (xL 5)), none), (.v (oIaddr 1 (xL 11) (xL 10)), none), (.h (oStore 1 (xL 0) (xL 3)), none)] 0 [none, none, none, none, none, none, none, none, none] [])
 (kSeq (kReg (sV (oMov (xT 5)) (sV (oBin .add .no (xL 0) (ki 1)) (sS 5 (xL 0) sEnd))))
 (kReg (sV (oMov (xT 6)) (sV (oBin .sub .no (xL 0) (ki 1)) (sS 6 (xL 0) sEnd))))))))))))
 (kSeq (kReg (sS 4 (xT 5) sEnd))
 kRet)))))
theorem t300 : FF d300 Tryz.f300 a300 [(.t 4)] := ff Tryz.func300 (by kernel_rfl)
def x300 : XFn := .go a300 4 pd5 [(.t 4)]
def d301 : FD := ⟨301, 4, [8, 9, 10, 11, 43, 60, 112, 129]⟩
def a301 : CodeF := (kSeq (kReg (sS 4 (ki 0) (sS 5 (xK (bool false)) sEnd)))
 (kSeq (kDraw [(.v (oMov (xT 0)), none), (.v (oMov (xT 1)), none), (.v (oMov (xT 0)), none), (.v (oMov (xT 3)), none), (.v (oMov (xT 0)), none), (.v (oMov (xT 3)), none), (.v (oIaddr 1 (xL 1) (xL 0)), none), (.v (oLoad (xL 0)), none), (.v (oMov (xT 0)), none), (.v (oMov (xT 1)), none), (.v (oIaddr 1 (xL 1) (xL 0)), none), (.v (oLoad (xL 0)), none), (.v (oIaddr 1 (xL 11) (xL 10)), none), (.h (oStore 1 (xL 0) (xL 5)), none), (.v (oIaddr 1 (xL 11) (xL 10)), none), (.h (oStore 1 (xL 0) (xL 3)), none)] 0 [none, none, none, none, none, none, none, none, none, none, none, none] [])
 (kSeq (kReg (sV (oBin .add .no (xT 1) (ki 1)) (sV (oBin .sub .no (xT 2) (ki 1)) (sS 6 (xL 1) (sS 7 (xL 0) sEnd)))))
 (kSeq (kBlock 0 (kLoop (kSeq (kSeq (kDraw [(.v (oMov (xT 6)), none), (.v (oMov (xT 7)), none), (.v (oBin .leq .no (xL 1) (xL 0)), none), (.v (oMov (xL 0)), none), (.v (oMov (xT 0)), (some ((xL 0), true))), (.v (oMov (xT 6)), (some ((xL 1), true))), (.v (oIaddr 1 (xL 1) (xL 0)), (some ((xL 2), true))), (.v (oLoad (xL 0)), (some ((xL 3), true))), (.v (oMov (xT 0)), (some ((xL 4), true))), (.v (oMov (xT 1)), (some ((xL 5), true))), (.v (oIaddr 1 (xL 1) (xL 0)), (some ((xL 6), true))), (.v (oLoad (xL 0)), (some ((xL 7), true))), (.c (cFn 299) [(xL 4), (xL 0)], (some ((xL 8), true))), (.v (oPick (xL 9) (xL 0) (xK (bool false))), none)] 0 [none, none, none, none, none, none, none, none, (some 0), none, none, none] [])
 (kCond (xT 8) kSkip
 (kExit 0)))
 (kBlock 1 (kReg (sV (oMov (xT 6)) (sV (oBin .add .no (xL 0) (ki 1)) (sS 6 (xL 0) sEnd))))))))
 (kSeq (kBlock 2 (kLoop (kSeq (kSeq (kDraw [(.v (oMov (xT 6)), none), (.v (oMov (xT 7)), none), (.v (oBin .leq .no (xL 1) (xL 0)), none), (.v (oMov (xL 0)), none), (.v (oMov (xT 0)), (some ((xL 0), true))), (.v (oMov (xT 7)), (some ((xL 1), true))), (.v (oIaddr 1 (xL 1) (xL 0)), (some ((xL 2), true))), (.v (oLoad (xL 0)), (some ((xL 3), true))), (.v (oMov (xT 0)), (some ((xL 4), true))), (.v (oMov (xT 1)), (some ((xL 5), true))), (.v (oIaddr 1 (xL 1) (xL 0)), (some ((xL 6), true))), (.v (oLoad (xL 0)), (some ((xL 7), true))), (.c (cFn 299) [(xL 4), (xL 0)], (some ((xL 8), true))), (.v (oUn .not (xL 0)), (some ((xL 9), true))), (.v (oPick (xL 10) (xL 0) (xK (bool false))), none)] 0 [none, none, none, none, none, none, none, none, none, (some 0), none, none] [])
 (kCond (xT 9) kSkip
 (kExit 2)))
 (kBlock 3 (kReg (sV (oMov (xT 7)) (sV (oBin .sub .no (xL 0) (ki 1)) (sS 7 (xL 0) sEnd))))))))
 (kSeq (kRegC (fun k => (sV (oBin .gtr .no (xT 6) (xT 7)) k)) (xL 0) (kSeq (kDraw [(.v (oMov (xT 0)), none), (.v (oMov (xT 7)), none), (.v (oMov (xT 0)), none), (.v (oMov (xT 1)), none), (.v (oMov (xT 0)), none), (.v (oMov (xT 1)), none), (.v (oIaddr 1 (xL 1) (xL 0)), none), (.v (oLoad (xL 0)), none), (.v (oMov (xT 0)), none), (.v (oMov (xT 7)), none), (.v (oIaddr 1 (xL 1) (xL 0)), none), (.v (oLoad (xL 0)), none), (.v (oIaddr 1 (xL 11) (xL 10)), none), (.h (oStore 1 (xL 0) (xL 5)), none), (.v (oIaddr 1 (xL 11) (xL 10)), none), (.h (oStore 1 (xL 0) (xL 3)), none)] 0 [none, none, none, none, none, none, none, none, none, none, none, none] [])
 (kSeq (kReg (sS 4 (xT 7) (sS 5 (xK (bool true)) sEnd)))
 kRet))
 kSkip)
 (kSeq (kDraw [(.v (oMov (xT 0)), none), (.v (oMov (xT 6)), none), (.v (oMov (xT 0)), none), (.v (oMov (xT 7)), none), (.v (oMov (xT 0)), none), (.v (oMov (xT 7)), none), (.v (oIaddr 1 (xL 1) (xL 0)), none), (.v (oLoad (xL 0)), none), (.v (oMov (xT 0)), none), (.v (oMov (xT 6)), none), (.v (oIaddr 1 (xL 1) (xL 0)), none), (.v (oLoad (xL 0)), none), (.v (oIaddr 1 (xL 11) (xL 10)), none), (.h (oStore 1 (xL 0) (xL 5)), none), (.v (oIaddr 1 (xL 11) (xL 10)), none), (.h (oStore 1 (xL 0) (xL 3)), none)] 0 [none, none, none, none, none, none, none, none, none, none, none, none] [])
 (kSeq (kReg (sV (oMov (xT 6)) (sV (oBin .add .no (xL 0) (ki 1)) (sS 6 (xL 0) sEnd))))
 (kSeq (kReg (sV (oMov (xT 7)) (sV (oBin .sub .no (xL 0) (ki 1)) (sS 7 (xL 0) sEnd))))
 (kSeq (kBlock 4 (kLoop (kBlock 5 (kSeq (kBlock 6 (kLoop (kSeq (kSeq (kDraw [(.v (oMov (xT 6)), none), (.v (oMov (xT 7)), none), (.v (oBin .leq .no (xL 1) (xL 0)), none), (.v (oMov (xL 0)), none), (.v (oMov (xT 0)), (some ((xL 0), true))), (.v (oMov (xT 6)), (some ((xL 1), true))), (.v (oIaddr 1 (xL 1) (xL 0)), (some ((xL 2), true))), (.v (oLoad (xL 0)), (some ((xL 3), true))), (.v (oMov (xT 0)), (some ((xL 4), true))), (.v (oMov (xT 1)), (some ((xL 5), true))), (.v (oIaddr 1 (xL 1) (xL 0)), (some ((xL 6), true))), (.v (oLoad (xL 0)), (some ((xL 7), true))), (.c (cFn 299) [(xL 4), (xL 0)], (some ((xL 8), true))), (.v (oPick (xL 9) (xL 0) (xK (bool false))), none)] 0 [none, none, none, none, none, none, none, none, none, none, (some 0), none] [])
 (kCond (xT 10) kSkip
 (kExit 6)))
 (kBlock 7 (kReg (sV (oMov (xT 6)) (sV (oBin .add .no (xL 0) (ki 1)) (sS 6 (xL 0) sEnd))))))))
 (kSeq (kBlock 8 (kLoop (kSeq (kSeq (kDraw [(.v (oMov (xT 6)), none), (.v (oMov (xT 7)), none), (.v (oBin .leq .no (xL 1) (xL 0)), none), (.v (oMov (xL 0)), none), (.v (oMov (xT 0)), (some ((xL 0), true))), (.v (oMov (xT 7)), (some ((xL 1), true))), (.v (oIaddr 1 (xL 1) (xL 0)), (some ((xL 2), true))), (.v (oLoad (xL 0)), (some ((xL 3), true))), (.v (oMov (xT 0)), (some ((xL 4), true))), (.v (oMov (xT 1)), (some ((xL 5), true))), (.v (oIaddr 1 (xL 1) (xL 0)), (some ((xL 6), true))), (.v (oLoad (xL 0)), (some ((xL 7), true))), (.c (cFn 299) [(xL 4), (xL 0)], (some ((xL 8), true))), (.v (oUn .not (xL 0)), (some ((xL 9), true))), (.v (oPick (xL 10) (xL 0) (xK (bool false))), none)] 0 [none, none, none, none, none, none, none, none, none, none, none, (some 0)] [])
 (kCond (xT 11) kSkip
 (kExit 8)))
 (kBlock 9 (kReg (sV (oMov (xT 7)) (sV (oBin .sub .no (xL 0) (ki 1)) (sS 7 (xL 0) sEnd))))))))
 (kSeq (kRegC (fun k => (sV (oBin .gtr .no (xT 6) (xT 7)) k)) (xL 0) (kExit 4)
 kSkip)
 (kSeq (kDraw [(.v (oMov (xT 0)), none), (.v (oMov (xT 6)), none), (.v (oMov (xT 0)), none), (.v (oMov (xT 7)), none), (.v (oMov (xT 0)), none), (.v (oMov (xT 7)), none), (.v (oIaddr 1 (xL 1) (xL 0)), none), (.v (oLoad (xL 0)), none), (.v (oMov (xT 0)), none), (.v (oMov (xT 6)), none), (.v (oIaddr 1 (xL 1) (xL 0)), none), (.v (oLoad (xL 0)), none), (.v (oIaddr 1 (xL 11) (xL 10)), none), (.h (oStore 1 (xL 0) (xL 5)), none), (.v (oIaddr 1 (xL 11) (xL 10)), none), (.h (oStore 1 (xL 0) (xL 3)), none)] 0 [none, none, none, none, none, none, none, none, none, none, none, none] [])
 (kSeq (kReg (sV (oMov (xT 6)) (sV (oBin .add .no (xL 0) (ki 1)) (sS 6 (xL 0) sEnd))))
 (kReg (sV (oMov (xT 7)) (sV (oBin .sub .no (xL 0) (ki 1)) (sS 7 (xL 0) sEnd))))))))))))
 (kSeq (kDraw [(.v (oMov (xT 0)), none), (.v (oMov (xT 7)), none), (.v (oMov (xT 0)), none), (.v (oMov (xT 1)), none), (.v (oMov (xT 0)), none), (.v (oMov (xT 1)), none), (.v (oIaddr 1 (xL 1) (xL 0)), none), (.v (oLoad (xL 0)), none), (.v (oMov (xT 0)), none), (.v (oMov (xT 7)), none), (.v (oIaddr 1 (xL 1) (xL 0)), none), (.v (oLoad (xL 0)), none), (.v (oIaddr 1 (xL 11) (xL 10)), none), (.h (oStore 1 (xL 0) (xL 5)), none), (.v (oIaddr 1 (xL 11) (xL 10)), none), (.h (oStore 1 (xL 0) (xL 3)), none)] 0 [none, none, none, none, none, none, none, none, none, none, none, none] [])
 (kSeq (kReg (sS 4 (xT 7) (sS 5 (xK (bool false)) sEnd)))
 kRet))))))))))))
theorem t301 : FF d301 Tryz.f301 a301 [(.t 4), (.t 5)] := ff Tryz.func301 (by kernel_rfl)
def x301 : XFn := .go a301 4 pd8 [(.t 4), (.t 5)]
def d302 : FD := ⟨302, 3, [6, 7, 30]⟩
def a302 : CodeF := (kSeq (kReg (sV (oBin .add .no (xT 1) (ki 1)) (sS 3 (xL 0) sEnd)))
 (kBlock 0 (kLoop (kSeq (kRegC (fun k => (sV (oBin .lss .no (xT 3) (xT 2)) k)) (xL 0) kSkip
 (kExit 0))
 (kSeq (kBlock 1 (kSeq (kReg (sS 4 (xT 3) sEnd))
 (kBlock 2 (kLoop (kSeq (kSeq (kDraw [(.v (oMov (xT 4)), none), (.v (oMov (xT 1)), none), (.v (oBin .gtr .no (xL 1) (xL 0)), none), (.v (oMov (xL 0)), none), (.v (oMov (xT 0)), (some ((xL 0), true))), (.v (oMov (xT 4)), (some ((xL 1), true))), (.v (oIaddr 1 (xL 1) (xL 0)), (some ((xL 2), true))), (.v (oLoad (xL 0)), (some ((xL 3), true))), (.v (oMov (xT 0)), (some ((xL 4), true))), (.v (oMov (xT 4)), (some ((xL 5), true))), (.v (oBin .sub .no (xL 0) (ki 1)), (some ((xL 6), true))), (.v (oIaddr 1 (xL 2) (xL 0)), (some ((xL 7), true))), (.v (oLoad (xL 0)), (some ((xL 8), true))), (.c (cFn 308) [(xL 5), (xL 0)], (some ((xL 9), true))), (.v (oPick (xL 10) (xL 0) (xK (bool false))), none)] 0 [none, none, none, none, none, (some 0)] [])
 (kCond (xT 5) kSkip
 (kExit 2)))
 (kSeq (kBlock 3 (kDraw [(.v (oMov (xT 0)), none), (.v (oMov (xT 4)), none), (.v (oMov (xT 0)), none), (.v (oMov (xT 4)), none), (.v (oBin .sub .no (xL 0) (ki 1)), none), (.v (oMov (xT 0)), none), (.v (oMov (xT 4)), none), (.v (oBin .sub .no (xL 0) (ki 1)), none), (.v (oIaddr 1 (xL 2) (xL 0)), none), (.v (oLoad (xL 0)), none), (.v (oMov (xT 0)), none), (.v (oMov (xT 4)), none), (.v (oIaddr 1 (xL 1) (xL 0)), none), (.v (oLoad (xL 0)), none), (.v (oIaddr 1 (xL 13) (xL 12)), none), (.h (oStore 1 (xL 0) (xL 5)), none), (.v (oIaddr 1 (xL 13) (xL 11)), none), (.h (oStore 1 (xL 0) (xL 3)), none)] 0 [none, none, none, none, none, none] []))
 (kReg (sV (oMov (xT 4)) (sV (oBin .sub .no (xL 0) (ki 1)) (sS 4 (xL 0) sEnd))))))))))
 (kReg (sV (oMov (xT 3)) (sV (oBin .add .no (xL 0) (ki 1)) (sS 3 (xL 0) sEnd)))))))))
theorem t302 : FF d302 Tryz.f302 a302 [] := ff Tryz.func302 (by kernel_rfl)
def x302 : XFn := .go a302 3 pd3 []
def d303 : FD := ⟨303, 3, [8, 9, 6, 10, 7]⟩
def a303 : CodeF := (kSeq (kReg (sS 5 (xT 1) sEnd))
 (kSeq (kReg (sS 7 (ki 0) sEnd))
 (kSeq (kReg (sV (oBin .sub .no (xT 2) (xT 1)) (sS 3 (xL 0) sEnd)))
 (kSeq (kSeq (kReg (sV (oBin .sub .no (xT 3) (ki 1)) (sV (oBin .quo .no (xL 0) (ki 2)) (sS 4 (xL 0) sEnd))))
 (kBlock 0 (kLoop (kSeq (kRegC (fun k => (sV (oBin .geq .no (xT 4) (ki 0)) k)) (xL 0) kSkip
 (kExit 0))
 (kSeq (kBlock 1 (kReg (sC (cFn 349) [(xT 0), (xT 4), (xT 3), (xT 5)] sEnd)))
 (kReg (sV (oMov (xT 4)) (sV (oBin .sub .no (xL 0) (ki 1)) (sS 4 (xL 0) sEnd)))))))))
 (kSeq (kReg (sV (oBin .sub .no (xT 3) (ki 1)) (sS 6 (xL 0) sEnd)))
 (kBlock 2 (kLoop (kSeq (kRegC (fun k => (sV (oBin .geq .no (xT 6) (ki 0)) k)) (xL 0) kSkip
 (kExit 2))
 (kSeq (kBlock 3 (kSeq (kDraw [(.v (oMov (xT 0)), none), (.v (oMov (xT 5)), none), (.v (oMov (xT 0)), none), (.v (oMov (xT 5)), none), (.v (oMov (xT 6)), none), (.v (oBin .add .no (xL 1) (xL 0)), none), (.v (oMov (xT 0)), none), (.v (oMov (xT 5)), none), (.v (oMov (xT 6)), none), (.v (oBin .add .no (xL 1) (xL 0)), none), (.v (oIaddr 1 (xL 3) (xL 0)), none), (.v (oLoad (xL 0)), none), (.v (oMov (xT 0)), none), (.v (oMov (xT 5)), none), (.v (oIaddr 1 (xL 1) (xL 0)), none), (.v (oLoad (xL 0)), none), (.v (oIaddr 1 (xL 15) (xL 14)), none), (.h (oStore 1 (xL 0) (xL 5)), none), (.v (oIaddr 1 (xL 15) (xL 12)), none), (.h (oStore 1 (xL 0) (xL 3)), none)] 0 [none, none, none, none, none, none, none, none] [])
 (kReg (sC (cFn 349) [(xT 0), (xT 7), (xT 6), (xT 5)] sEnd))))
 (kReg (sV (oMov (xT 6)) (sV (oBin .sub .no (xL 0) (ki 1)) (sS 6 (xL 0) sEnd)))))))))))))
theorem t303 : FF d303 Tryz.f303 a303 [] := ff Tryz.func303 (by kernel_rfl)
def x303 : XFn := .go a303 3 pd5 []
def d304 : FD := ⟨304, 3, [6, 9, 8, 7, 10]⟩
def a304 : CodeF := (kSeq (kReg (sV (oBin .sub .no (xT 2) (xT 1)) (sS 3 (xL 0) sEnd)))
 (kRegC (fun k => (sV (oBin .geq .no (xT 3) (ki 8)) k)) (xL 0) (kSeq (kReg (sV (oConv .u64 (xT 3)) (sH (oAlloc 470 1 [(int .u64 (.ofNat 0))]) (sS 6 (xL 0) (sH (oStore 1 (xT 6) (xL 1)) sEnd)))))
 (kSeq (kReg (sC (cFn 341) [(xT 3)] (sS 5 (xL 0) sEnd)))
 (kSeq (kReg (sV (oBin .quo .no (xT 3) (ki 4)) (sV (oBin .mul .no (xL 0) (ki 2)) (sV (oBin .add .no (xT 1) (xL 0)) (sV (oBin .sub .no (xL 0) (ki 1)) (sS 4 (xL 0) sEnd))))))
 (kBlock 0 (kLoop (kSeq (kRegC (fun k => (sV (oBin .quo .no (xT 3) (ki 4)) (sV (oBin .mul .no (xL 0) (ki 2)) (sV (oBin .add .no (xT 1) (xL 0)) (sV (oBin .add .no (xL 0) (ki 1)) (sV (oBin .leq .no (xT 4) (xL 0)) k)))))) (xL 0) kSkip
 (kExit 0))
 (kSeq (kBlock 1 (kSeq (kReg (sC (cFn 342) [(xT 6)] (sV (oBin .sub .no (xT 5) (xK (int .u64 (.ofNat 1)))) (sV (oBin .and .no (xL 1) (xL 0)) (sV (oConv .i64 (xL 0)) (sS 7 (xL 0) sEnd))))))
 (kSeq (kRegC (fun k => (sV (oBin .geq .no (xT 7) (xT 3)) k)) (xL 0) (kReg (sV (oMov (xT 7)) (sV (oBin .sub .no (xL 0) (xT 3)) (sS 7 (xL 0) sEnd))))
 kSkip)
 (kDraw [(.v (oMov (xT 0)), none), (.v (oMov (xT 4)), none), (.v (oMov (xT 0)), none), (.v (oMov (xT 1)), none), (.v (oMov (xT 7)), none), (.v (oBin .add .no (xL 1) (xL 0)), none), (.v (oMov (xT 0)), none), (.v (oMov (xT 1)), none), (.v (oMov (xT 7)), none), (.v (oBin .add .no (xL 1) (xL 0)), none), (.v (oIaddr 1 (xL 3) (xL 0)), none), (.v (oLoad (xL 0)), none), (.v (oMov (xT 0)), none), (.v (oMov (xT 4)), none), (.v (oIaddr 1 (xL 1) (xL 0)), none), (.v (oLoad (xL 0)), none), (.v (oIaddr 1 (xL 15) (xL 14)), none), (.h (oStore 1 (xL 0) (xL 5)), none), (.v (oIaddr 1 (xL 15) (xL 12)), none), (.h (oStore 1 (xL 0) (xL 3)), none)] 0 [none, none, none, none, none, none, none, none] []))))
 (kReg (sV (oMov (xT 4)) (sV (oBin .add .no (xL 0) (ki 1)) (sS 4 (xL 0) sEnd)))))))))))
 kSkip))
theorem t304 : FF d304 Tryz.f304 a304 [] := ff Tryz.func304 (by kernel_rfl)
def x304 : XFn := .go a304 3 pd5 []
def d305 : FD := ⟨305, 3, [6, 7, 8, 9, 10, 11, 12, 49]⟩
def a305 : CodeF := (kSeq (kReg (sS 3 (ki 0) (sS 4 (ki 0) sEnd)))
 (kSeq (kReg (sV (oBin .sub .no (xT 2) (xT 1)) (sS 5 (xL 0) sEnd)))
 (kSeq (kReg (sH (oAlloc 3 1 [(int .i64 (.ofNat 0))]) (sS 6 (xL 0) sEnd)))
 (kSeq (kReg (sV (oBin .quo .no (xT 5) (ki 4)) (sV (oBin .mul .no (xL 0) (ki 1)) (sV (oBin .add .no (xT 1) (xL 0)) (sS 7 (xL 0) sEnd)))))
 (kSeq (kReg (sV (oBin .quo .no (xT 5) (ki 4)) (sV (oBin .mul .no (xL 0) (ki 2)) (sV (oBin .add .no (xT 1) (xL 0)) (sS 8 (xL 0) sEnd)))))
 (kSeq (kReg (sV (oBin .quo .no (xT 5) (ki 4)) (sV (oBin .mul .no (xL 0) (ki 3)) (sV (oBin .add .no (xT 1) (xL 0)) (sS 9 (xL 0) sEnd)))))
 (kSeq (kRegC (fun k => (sV (oBin .geq .no (xT 5) (ki 8)) k)) (xL 0) (kSeq (kRegC (fun k => (sV (oBin .geq .no (xT 5) (ki 50)) k)) (xL 0) (kSeq (kReg (sV (oMov (xT 7)) (sC (cFn 350) [(xT 0), (xL 0), (xT 6)] (sS 7 (xL 0) sEnd))))
 (kSeq (kReg (sV (oMov (xT 8)) (sC (cFn 350) [(xT 0), (xL 0), (xT 6)] (sS 8 (xL 0) sEnd))))
 (kReg (sV (oMov (xT 9)) (sC (cFn 350) [(xT 0), (xL 0), (xT 6)] (sS 9 (xL 0) sEnd))))))
 kSkip)
 (kReg (sV (oMov (xT 8)) (sC (cFn 351) [(xT 0), (xT 7), (xL 0), (xT 9), (xT 6)] (sS 8 (xL 0) sEnd)))))
 kSkip)
 (kSeq (kReg (sV (oLoad (xT 6)) (sS 10 (xL 0) sEnd)))
 (kBlock 0 (kRegC (fun k => (sV (oBin .eql .no (xT 10) (ki 0)) k)) (xL 0) (kSeq (kReg (sS 3 (xT 8) (sS 4 (ki 1) sEnd)))
 kRet)
 (kRegC (fun k => (sV (oBin .eql .no (xT 10) (ki 12)) k)) (xL 0) (kSeq (kReg (sS 3 (xT 8) (sS 4 (ki 2) sEnd)))
 kRet)
 (kSeq (kReg (sS 3 (xT 8) (sS 4 (ki 0) sEnd)))
 kRet))))))))))))
theorem t305 : FF d305 Tryz.f305 a305 [(.t 3), (.t 4)] := ff Tryz.func305 (by kernel_rfl)
def x305 : XFn := .go a305 3 pd8 [(.t 3), (.t 4)]
def d306 : FD := ⟨306, 3, [7, 6]⟩
def a306 : CodeF := (kSeq (kReg (sS 4 (xT 1) sEnd))
 (kSeq (kReg (sV (oBin .sub .no (xT 2) (ki 1)) (sS 3 (xL 0) sEnd)))
 (kBlock 0 (kLoop (kSeq (kRegC (fun k => (sV (oBin .lss .no (xT 4) (xT 3)) k)) (xL 0) kSkip
 (kExit 0))
 (kBlock 1 (kSeq (kDraw [(.v (oMov (xT 0)), none), (.v (oMov (xT 4)), none), (.v (oMov (xT 0)), none), (.v (oMov (xT 3)), none), (.v (oMov (xT 0)), none), (.v (oMov (xT 3)), none), (.v (oIaddr 1 (xL 1) (xL 0)), none), (.v (oLoad (xL 0)), none), (.v (oMov (xT 0)), none), (.v (oMov (xT 4)), none), (.v (oIaddr 1 (xL 1) (xL 0)), none), (.v (oLoad (xL 0)), none), (.v (oIaddr 1 (xL 11) (xL 10)), none), (.h (oStore 1 (xL 0) (xL 5)), none), (.v (oIaddr 1 (xL 11) (xL 10)), none), (.h (oStore 1 (xL 0) (xL 3)), none)] 0 [none, none, none, none, none] [])
 (kSeq (kReg (sV (oMov (xT 4)) (sV (oBin .add .no (xL 0) (ki 1)) (sS 4 (xL 0) sEnd))))
 (kReg (sV (oMov (xT 3)) (sV (oBin .sub .no (xL 0) (ki 1)) (sS 3 (xL 0) sEnd))))))))))))
theorem t306 : FF d306 Tryz.f306 a306 [] := ff Tryz.func306 (by kernel_rfl)
def x306 : XFn := .go a306 3 pd2 []
def d307 : FD := ⟨307, 3, [6, 8, 7, 32, 9, 78, 10, 116]⟩
def a307 : CodeF := (kSeq (kReg (sS 3 (xK (bool false)) sEnd))
 (kSeq (kReg (sV (oBin .add .no (xT 1) (ki 1)) (sS 5 (xL 0) sEnd)))
 (kSeq (kSeq (kReg (sS 4 (ki 0) sEnd))
 (kBlock 0 (kLoop (kSeq (kRegC (fun k => (sV (oBin .lss .no (xT 4) (ki 5)) k)) (xL 0) kSkip
 (kExit 0))
 (kSeq (kBlock 1 (kSeq (kBlock 2 (kLoop (kSeq (kSeq (kDraw [(.v (oMov (xT 5)), none), (.v (oMov (xT 2)), none), (.v (oBin .lss .no (xL 1) (xL 0)), none), (.v (oMov (xL 0)), none), (.v (oMov (xT 0)), (some ((xL 0), true))), (.v (oMov (xT 5)), (some ((xL 1), true))), (.v (oIaddr 1 (xL 1) (xL 0)), (some ((xL 2), true))), (.v (oLoad (xL 0)), (some ((xL 3), true))), (.v (oMov (xT 0)), (some ((xL 4), true))), (.v (oMov (xT 5)), (some ((xL 5), true))), (.v (oBin .sub .no (xL 0) (ki 1)), (some ((xL 6), true))), (.v (oIaddr 1 (xL 2) (xL 0)), (some ((xL 7), true))), (.v (oLoad (xL 0)), (some ((xL 8), true))), (.c (cFn 308) [(xL 5), (xL 0)], (some ((xL 9), true))), (.v (oUn .not (xL 0)), (some ((xL 10), true))), (.v (oPick (xL 11) (xL 0) (xK (bool false))), none)] 0 [none, none, none, none, none, none, (some 0), none, none, none, none] [])
 (kCond (xT 6) kSkip
 (kExit 2)))
 (kBlock 3 (kReg (sV (oMov (xT 5)) (sV (oBin .add .no (xL 0) (ki 1)) (sS 5 (xL 0) sEnd))))))))
 (kSeq (kRegC (fun k => (sV (oBin .eql .no (xT 5) (xT 2)) k)) (xL 0) (kSeq (kReg (sS 3 (xK (bool true)) sEnd))
 kRet)
 kSkip)
 (kSeq (kRegC (fun k => (sV (oBin .sub .no (xT 2) (xT 1)) (sV (oBin .lss .no (xL 0) (ki 50)) k))) (xL 0) (kSeq (kReg (sS 3 (xK (bool false)) sEnd))
 kRet)
 kSkip)
 (kSeq (kDraw [(.v (oMov (xT 0)), none), (.v (oMov (xT 5)), none), (.v (oMov (xT 0)), none), (.v (oMov (xT 5)), none), (.v (oBin .sub .no (xL 0) (ki 1)), none), (.v (oMov (xT 0)), none), (.v (oMov (xT 5)), none), (.v (oBin .sub .no (xL 0) (ki 1)), none), (.v (oIaddr 1 (xL 2) (xL 0)), none), (.v (oLoad (xL 0)), none), (.v (oMov (xT 0)), none), (.v (oMov (xT 5)), none), (.v (oIaddr 1 (xL 1) (xL 0)), none), (.v (oLoad (xL 0)), none), (.v (oIaddr 1 (xL 13) (xL 12)), none), (.h (oStore 1 (xL 0) (xL 5)), none), (.v (oIaddr 1 (xL 13) (xL 11)), none), (.h (oStore 1 (xL 0) (xL 3)), none)] 0 [none, none, none, none, none, none, none, none, none, none, none] [])
 (kSeq (kRegC (fun k => (sV (oBin .sub .no (xT 5) (xT 1)) (sV (oBin .geq .no (xL 0) (ki 2)) k))) (xL 0) (kSeq (kReg (sV (oBin .sub .no (xT 5) (ki 1)) (sS 7 (xL 0) sEnd)))
 (kBlock 4 (kLoop (kSeq (kRegC (fun k => (sV (oBin .geq .no (xT 7) (ki 1)) k)) (xL 0) kSkip
 (kExit 4))
 (kSeq (kBlock 5 (kSeq (kSeq (kDraw [(.v (oMov (xT 0)), none), (.v (oMov (xT 7)), none), (.v (oIaddr 1 (xL 1) (xL 0)), none), (.v (oLoad (xL 0)), none), (.v (oMov (xT 0)), none), (.v (oMov (xT 7)), none), (.v (oBin .sub .no (xL 0) (ki 1)), none), (.v (oIaddr 1 (xL 2) (xL 0)), none), (.v (oLoad (xL 0)), none), (.c (cFn 308) [(xL 5), (xL 0)], none), (.v (oUn .not (xL 0)), none)] 0 [none, none, none, none, none, none, none, none, (some 0), none, none] [])
 (kCond (xT 8) (kExit 4)
 kSkip))
 (kDraw [(.v (oMov (xT 0)), none), (.v (oMov (xT 7)), none), (.v (oMov (xT 0)), none), (.v (oMov (xT 7)), none), (.v (oBin .sub .no (xL 0) (ki 1)), none), (.v (oMov (xT 0)), none), (.v (oMov (xT 7)), none), (.v (oBin .sub .no (xL 0) (ki 1)), none), (.v (oIaddr 1 (xL 2) (xL 0)), none), (.v (oLoad (xL 0)), none), (.v (oMov (xT 0)), none), (.v (oMov (xT 7)), none), (.v (oIaddr 1 (xL 1) (xL 0)), none), (.v (oLoad (xL 0)), none), (.v (oIaddr 1 (xL 13) (xL 12)), none), (.h (oStore 1 (xL 0) (xL 5)), none), (.v (oIaddr 1 (xL 13) (xL 11)), none), (.h (oStore 1 (xL 0) (xL 3)), none)] 0 [none, none, none, none, none, none, none, none, none, none, none] [])))
 (kReg (sV (oMov (xT 7)) (sV (oBin .sub .no (xL 0) (ki 1)) (sS 7 (xL 0) sEnd)))))))))
 kSkip)
 (kRegC (fun k => (sV (oBin .sub .no (xT 2) (xT 5)) (sV (oBin .geq .no (xL 0) (ki 2)) k))) (xL 0) (kSeq (kReg (sV (oBin .add .no (xT 5) (ki 1)) (sS 9 (xL 0) sEnd)))
 (kBlock 6 (kLoop (kSeq (kRegC (fun k => (sV (oBin .lss .no (xT 9) (xT 2)) k)) (xL 0) kSkip
 (kExit 6))
 (kSeq (kBlock 7 (kSeq (kSeq (kDraw [(.v (oMov (xT 0)), none), (.v (oMov (xT 9)), none), (.v (oIaddr 1 (xL 1) (xL 0)), none), (.v (oLoad (xL 0)), none), (.v (oMov (xT 0)), none), (.v (oMov (xT 9)), none), (.v (oBin .sub .no (xL 0) (ki 1)), none), (.v (oIaddr 1 (xL 2) (xL 0)), none), (.v (oLoad (xL 0)), none), (.c (cFn 308) [(xL 5), (xL 0)], none), (.v (oUn .not (xL 0)), none)] 0 [none, none, none, none, none, none, none, none, none, none, (some 0)] [])
 (kCond (xT 10) (kExit 6)
 kSkip))
 (kDraw [(.v (oMov (xT 0)), none), (.v (oMov (xT 9)), none), (.v (oMov (xT 0)), none), (.v (oMov (xT 9)), none), (.v (oBin .sub .no (xL 0) (ki 1)), none), (.v (oMov (xT 0)), none), (.v (oMov (xT 9)), none), (.v (oBin .sub .no (xL 0) (ki 1)), none), (.v (oIaddr 1 (xL 2) (xL 0)), none), (.v (oLoad (xL 0)), none), (.v (oMov (xT 0)), none), (.v (oMov (xT 9)), none), (.v (oIaddr 1 (xL 1) (xL 0)), none), (.v (oLoad (xL 0)), none), (.v (oIaddr 1 (xL 13) (xL 12)), none), (.h (oStore 1 (xL 0) (xL 5)), none), (.v (oIaddr 1 (xL 13) (xL 11)), none), (.h (oStore 1 (xL 0) (xL 3)), none)] 0 [none, none, none, none, none, none, none, none, none, none, none] [])))
 (kReg (sV (oMov (xT 9)) (sV (oBin .add .no (xL 0) (ki 1)) (sS 9 (xL 0) sEnd)))))))))
 kSkip)))))))
 (kReg (sV (oMov (xT 4)) (sV (oBin .add .no (xL 0) (ki 1)) (sS 4 (xL 0) sEnd)))))))))
 (kSeq (kReg (sS 3 (xK (bool false)) sEnd))
 kRet))))
theorem t307 : FF d307 Tryz.f307 a307 [(.t 3)] := ff Tryz.func307 (by kernel_rfl)
def x307 : XFn := .go a307 3 pd8 [(.t 3)]
def d308 : FD := ⟨308, 2, [4]⟩
def a308 : CodeF := (kSeq (kReg (sS 2 (xK (bool false)) sEnd))
 (kSeq (kReg (sC (cFn 352) [(xT 0)] (sG (xL 0) true (sV (oMov (xT 1))) (sG (xL 1) true (sC (cFn 352) [(xL 0)]) (sG (xL 2) true (sV (oUn .not (xL 0))) (sV (oPick (xL 3) (xL 0) (xK (bool false))) (sG (xL 0) false (sV (oMov (xT 0))) (sG (xL 1) false (sV (oMov (xT 1))) (sG (xL 2) false (sV (oBin .lss .no (xL 1) (xL 0))) (sV (oPick (xL 3) (xK (bool true)) (xL 0)) (sS 2 (xL 0) sEnd)))))))))))
 kRet))
theorem t308 : FF d308 Tryz.f308 a308 [(.t 2)] := ff Tryz.func308 (by kernel_rfl)
def x308 : XFn := .go a308 2 pd1 [(.t 2)]
def d309 : FD := ⟨309, 4, [8, 9, 10, 43, 59]⟩
def a309 : CodeF := (kSeq (kReg (sS 4 (ki 0) sEnd))
 (kSeq (kDraw [(.v (oMov (xT 0)), none), (.v (oMov (xT 1)), none), (.v (oMov (xT 0)), none), (.v (oMov (xT 3)), none), (.v (oMov (xT 0)), none), (.v (oMov (xT 3)), none), (.v (oIaddr 1 (xL 1) (xL 0)), none), (.v (oLoad (xL 0)), none), (.v (oMov (xT 0)), none), (.v (oMov (xT 1)), none), (.v (oIaddr 1 (xL 1) (xL 0)), none), (.v (oLoad (xL 0)), none), (.v (oIaddr 1 (xL 11) (xL 10)), none), (.h (oStore 1 (xL 0) (xL 5)), none), (.v (oIaddr 1 (xL 11) (xL 10)), none), (.h (oStore 1 (xL 0) (xL 3)), none)] 0 [none, none, none, none, none, none, none, none, none] [])
 (kSeq (kReg (sV (oBin .add .no (xT 1) (ki 1)) (sV (oBin .sub .no (xT 2) (ki 1)) (sS 5 (xL 1) (sS 6 (xL 0) sEnd)))))
 (kSeq (kBlock 0 (kLoop (kBlock 1 (kSeq (kBlock 2 (kLoop (kSeq (kSeq (kDraw [(.v (oMov (xT 5)), none), (.v (oMov (xT 6)), none), (.v (oBin .leq .no (xL 1) (xL 0)), none), (.v (oMov (xL 0)), none), (.v (oMov (xT 0)), (some ((xL 0), true))), (.v (oMov (xT 1)), (some ((xL 1), true))), (.v (oIaddr 1 (xL 1) (xL 0)), (some ((xL 2), true))), (.v (oLoad (xL 0)), (some ((xL 3), true))), (.v (oMov (xT 0)), (some ((xL 4), true))), (.v (oMov (xT 5)), (some ((xL 5), true))), (.v (oIaddr 1 (xL 1) (xL 0)), (some ((xL 6), true))), (.v (oLoad (xL 0)), (some ((xL 7), true))), (.c (cFn 308) [(xL 4), (xL 0)], (some ((xL 8), true))), (.v (oUn .not (xL 0)), (some ((xL 9), true))), (.v (oPick (xL 10) (xL 0) (xK (bool false))), none)] 0 [none, none, none, none, none, none, none, (some 0), none] [])
 (kCond (xT 7) kSkip
 (kExit 2)))
 (kBlock 3 (kReg (sV (oMov (xT 5)) (sV (oBin .add .no (xL 0) (ki 1)) (sS 5 (xL 0) sEnd))))))))
 (kSeq (kBlock 4 (kLoop (kSeq (kSeq (kDraw [(.v (oMov (xT 5)), none), (.v (oMov (xT 6)), none), (.v (oBin .leq .no (xL 1) (xL 0)), none), (.v (oMov (xL 0)), none), (.v (oMov (xT 0)), (some ((xL 0), true))), (.v (oMov (xT 1)), (some ((xL 1), true))), (.v (oIaddr 1 (xL 1) (xL 0)), (some ((xL 2), true))), (.v (oLoad (xL 0)), (some ((xL 3), true))), (.v (oMov (xT 0)), (some ((xL 4), true))), (.v (oMov (xT 6)), (some ((xL 5), true))), (.v (oIaddr 1 (xL 1) (xL 0)), (some ((xL 6), true))), (.v (oLoad (xL 0)), (some ((xL 7), true))), (.c (cFn 308) [(xL 4), (xL 0)], (some ((xL 8), true))), (.v (oPick (xL 9) (xL 0) (xK (bool false))), none)] 0 [none, none, none, none, none, none, none, none, (some 0)] [])
 (kCond (xT 8) kSkip
 (kExit 4)))
 (kBlock 5 (kReg (sV (oMov (xT 6)) (sV (oBin .sub .no (xL 0) (ki 1)) (sS 6 (xL 0) sEnd))))))))
 (kSeq (kRegC (fun k => (sV (oBin .gtr .no (xT 5) (xT 6)) k)) (xL 0) (kExit 0)
 kSkip)
 (kSeq (kDraw [(.v (oMov (xT 0)), none), (.v (oMov (xT 5)), none), (.v (oMov (xT 0)), none), (.v (oMov (xT 6)), none), (.v (oMov (xT 0)), none), (.v (oMov (xT 6)), none), (.v (oIaddr 1 (xL 1) (xL 0)), none), (.v (oLoad (xL 0)), none), (.v (oMov (xT 0)), none), (.v (oMov (xT 5)), none), (.v (oIaddr 1 (xL 1) (xL 0)), none), (.v (oLoad (xL 0)), none), (.v (oIaddr 1 (xL 11) (xL 10)), none), (.h (oStore 1 (xL 0) (xL 5)), none), (.v (oIaddr 1 (xL 11) (xL 10)), none), (.h (oStore 1 (xL 0) (xL 3)), none)] 0 [none, none, none, none, none, none, none, none, none] [])
 (kSeq (kReg (sV (oMov (xT 5)) (sV (oBin .add .no (xL 0) (ki 1)) (sS 5 (xL 0) sEnd))))
 (kReg (sV (oMov (xT 6)) (sV (oBin .sub .no (xL 0) (ki 1)) (sS 6 (xL 0) sEnd))))))))))))
 (kSeq (kReg (sS 4 (xT 5) sEnd))
 kRet)))))
theorem t309 : FF d309 Tryz.f309 a309 [(.t 4)] := ff Tryz.func309 (by kernel_rfl)
def x309 : XFn := .go a309 4 pd5 [(.t 4)]
def d310 : FD := ⟨310, 4, [8, 9, 10, 11, 43, 60, 112, 129]⟩
def a310 : CodeF := (kSeq (kReg (sS 4 (ki 0) (sS 5 (xK (bool false)) sEnd)))
 (kSeq (kDraw [(.v (oMov (xT 0)), none), (.v (oMov (xT 1)), none), (.v (oMov (xT 0)), none), (.v (oMov (xT 3)), none), (.v (oMov (xT 0)), none), (.v (oMov (xT 3)), none), (.v (oIaddr 1 (xL 1) (xL 0)), none), (.v (oLoad (xL 0)), none), (.v (oMov (xT 0)), none), (.v (oMov (xT 1)), none), (.v (oIaddr 1 (xL 1) (xL 0)), none), (.v (oLoad (xL 0)), none), (.v (oIaddr 1 (xL 11) (xL 10)), none), (.h (oStore 1 (xL 0) (xL 5)), none), (.v (oIaddr 1 (xL 11) (xL 10)), none), (.h (oStore 1 (xL 0) (xL 3)), none)] 0 [none, none, none, none, none, none, none, none, none, none, none, none] [])
 (kSeq (kReg (sV (oBin .add .no (xT 1) (ki 1)) (sV (oBin .sub .no (xT 2) (ki 1)) (sS 6 (xL 1) (sS 7 (xL 0) sEnd)))))
 (kSeq (kBlock 0 (kLoop (kSeq (kSeq (kDraw [(.v (oMov (xT 6)), none), (.v (oMov (xT 7)), none), (.v (oBin .leq .no (xL 1) (xL 0)), none), (.v (oMov (xL 0)), none), (.v (oMov (xT 0)), (some ((xL 0), true))), (.v (oMov (xT 6)), (some ((xL 1), true))), (.v (oIaddr 1 (xL 1) (xL 0)), (some ((xL 2), true))), (.v (oLoad (xL 0)), (some ((xL 3), true))), (.v (oMov (xT 0)), (some ((xL 4), true))), (.v (oMov (xT 1)), (some ((xL 5), true))), (.v (oIaddr 1 (xL 1) (xL 0)), (some ((xL 6), true))), (.v (oLoad (xL 0)), (some ((xL 7), true))), (.c (cFn 308) [(xL 4), (xL 0)], (some ((xL 8), true))), (.v (oPick (xL 9) (xL 0) (xK (bool false))), none)] 0 [none, none, none, none, none, none, none, none, (some 0), none, none, none] [])
 (kCond (xT 8) kSkip
 (kExit 0)))
 (kBlock 1 (kReg (sV (oMov (xT 6)) (sV (oBin .add .no (xL 0) (ki 1)) (sS 6 (xL 0) sEnd))))))))
 (kSeq (kBlock 2 (kLoop (kSeq (kSeq (kDraw [(.v (oMov (xT 6)), none), (.v (oMov (xT 7)), none), (.v (oBin .leq .no (xL 1) (xL 0)), none), (.v (oMov (xL 0)), none), (.v (oMov (xT 0)), (some ((xL 0), true))), (.v (oMov (xT 7)), (some ((xL 1), true))), (.v (oIaddr 1 (xL 1) (xL 0)), (some ((xL 2), true))), (.v (oLoad (xL 0)), (some ((xL 3), true))), (.v (oMov (xT 0)), (some ((xL 4), true))), (.v (oMov (xT 1)), (some ((xL 5), true))), (.v (oIaddr 1 (xL 1) (xL 0)), (some ((xL 6), true))), (.v (oLoad (xL 0)), (some ((xL 7), true))), (.c (cFn 308) [(xL 4), (xL 0)], (some ((xL 8), true))), (.v (oUn .not (xL 0)), (some ((xL 9), true))), (.v (oPick (xL 10) (xL 0) (xK (bool false))), none)] 0 [none, none, none, none, none, none, none, none, none, (some 0), none, none] [])
 (kCond (xT 9) kSkip
 (kExit 2)))
 (kBlock 3 (kReg (sV (oMov (xT 7)) (sV (oBin .sub .no (xL 0) (ki 1)) (sS 7 (xL 0) sEnd))))))))
 (kSeq (kRegC (fun k => (sV (oBin .gtr .no (xT 6) (xT 7)) k)) (xL 0) (kSeq (kDraw [(.v (oMov (xT 0)), none), (.v (oMov (xT 7)), none), (.v (oMov (xT 0)), none), (.v (oMov (xT 1)), none), (.v (oMov (xT 0)), none), (.v (oMov (xT 1)), none), (.v (oIaddr 1 (xL 1) (xL 0)), none), (.v (oLoad (xL 0)), none), (.v (oMov (xT 0)), none), (.v (oMov (xT 7)), none), (.v (oIaddr 1 (xL 1) (xL 0)), none), (.v (oLoad (xL 0)), none), (.v (oIaddr 1 (xL 11) (xL 10)), none), (.h (oStore 1 (xL 0) (xL 5)), none), (.v (oIaddr 1 (xL 11) (xL 10)), none), (.h (oStore 1 (xL 0) (xL 3)), none)] 0 [none, none, none, none, none, none, none, none, none, none, none, none] [])
 (kSeq (kReg (sS 4 (xT 7) (sS 5 (xK (bool true)) sEnd)))
 kRet))
 kSkip)
 (kSeq (kDraw [(.v (oMov (xT 0)), none), (.v (oMov (xT 6)), none), (.v (oMov (xT 0)), none), (.v (oMov (xT 7)), none), (.v (oMov (xT 0)), none), (.v (oMov (xT 7)), none), (.v (oIaddr 1 (xL 1) (xL 0)), none), (.v (oLoad (xL 0)), none), (.v (oMov (xT 0)), none), (.v (oMov (xT 6)), none), (.v (oIaddr 1 (xL 1) (xL 0)), none), (.v (oLoad (xL 0)), none), (.v (oIaddr 1 (xL 11) (xL 10)), none), (.h (oStore 1 (xL 0) (xL 5)), none), (.v (oIaddr 1 (xL 11) (xL 10)), none), (.h (oStore 1 (xL 0) (xL 3)), none)] 0 [none, none, none, none, none, none, none, none, none, none, none, none] [])
 (kSeq (kReg (sV (oMov (xT 6)) (sV (oBin .add .no (xL 0) (ki 1)) (sS 6 (xL 0) sEnd))))
 (kSeq (kReg (sV (oMov (xT 7)) (sV (oBin .sub .no (xL 0) (ki 1)) (sS 7 (xL 0) sEnd))))
 (kSeq (kBlock 4 (kLoop (kBlock 5 (kSeq (kBlock 6 (kLoop (kSeq (kSeq (kDraw [(.v (oMov (xT 6)), none), (.v (oMov (xT 7)), none), (.v (oBin .leq .no (xL 1) (xL 0)), none), (.v (oMov (xL 0)), none), (.v (oMov (xT 0)), (some ((xL 0), true))), (.v (oMov (xT 6)), (some ((xL 1), true))), (.v (oIaddr 1 (xL 1) (xL 0)), (some ((xL 2), true))), (.v (oLoad (xL 0)), (some ((xL 3), true))), (.v (oMov (xT 0)), (some ((xL 4), true))), (.v (oMov (xT 1)), (some ((xL 5), true))), (.v (oIaddr 1 (xL 1) (xL 0)), (some ((xL 6), true))), (.v (oLoad (xL 0)), (some ((xL 7), true))), (.c (cFn 308) [(xL 4), (xL 0)], (some ((xL 8), true))), (.v (oPick (xL 9) (xL 0) (xK (bool false))), none)] 0 [none, none, none, none, none, none, none, none, none, none, (some 0), none] [])
 (kCond (xT 10) kSkip
 (kExit 6)))
 (kBlock 7 (kReg (sV (oMov (xT 6)) (sV (oBin .add .no (xL 0) (ki 1)) (sS 6 (xL 0) sEnd))))))))
 (kSeq (kBlock 8 (kLoop (kSeq (kSeq (kDraw [(.v (oMov (xT 6)), none), (.v (oMov (xT 7)), none), (.v (oBin .leq .no (xL 1) (xL 0)), none), (.v (oMov (xL 0)), none), (.v (oMov (xT 0)), (some ((xL 0), true))), (.v (oMov (xT 7)), (some ((xL 1), true))), (.v (oIaddr 1 (xL 1) (xL 0)), (some ((xL 2), true))), (.v (oLoad (xL 0)), (some ((xL 3), true))), (.v (oMov (xT 0)), (some ((xL 4), true))), (.v (oMov (xT 1)), (some ((xL 5), true))), (.v (oIaddr 1 (xL 1) (xL 0)), (some ((xL 6), true))), (.v (oLoad (xL 0)), (some ((xL 7), true))), (.c (cFn 308) [(xL 4), (xL 0)], (some ((xL 8), true))), (.v (oUn .not (xL 0)), (some ((xL 9), true))), (.v (oPick (xL 10) (xL 0) (xK (bool false))), none)] 0 [none, none, none, none, none, none, none, none, none, none, none, (some 0)] [])
 (kCond (xT 11) kSkip
 (kExit 8)))
 (kBlock 9 (kReg (sV (oMov (xT 7)) (sV (oBin .sub .no (xL 0) (ki 1)) (sS 7 (xL 0) sEnd))))))))
 (kSeq (kRegC (fun k => (sV (oBin .gtr .no (xT 6) (xT 7)) k)) (xL 0) (kExit 4)
 kSkip)
 (kSeq (kDraw [(.v (oMov (xT 0)), none), (.v (oMov (xT 6)), none), (.v (oMov (xT 0)), none), (.v (oMov (xT 7)), none), (.v (oMov (xT 0)), none), (.v (oMov (xT 7)), none), (.v (oIaddr 1 (xL 1) (xL 0)), none), (.v (oLoad (xL 0)), none), (.v (oMov (xT 0)), none), (.v (oMov (xT 6)), none), (.v (oIaddr 1 (xL 1) (xL 0)), none), (.v (oLoad (xL 0)), none), (.v (oIaddr 1 (xL 11) (xL 10)), none), (.h (oStore 1 (xL 0) (xL 5)), none), (.v (oIaddr 1 (xL 11) (xL 10)), none), (.h (oStore 1 (xL 0) (xL 3)), none)] 0 [none, none, none, none, none, none, none, none, none, none, none, none] [])
 (kSeq (kReg (sV (oMov (xT 6)) (sV (oBin .add .no (xL 0) (ki 1)) (sS 6 (xL 0) sEnd))))
 (kReg (sV (oMov (xT 7)) (sV (oBin .sub .no (xL 0) (ki 1)) (sS 7 (xL 0) sEnd))))))))))))
 (kSeq (kDraw [(.v (oMov (xT 0)), none), (.v (oMov (xT 7)), none), (.v (oMov (xT 0)), none), (.v (oMov (xT 1)), none), (.v (oMov (xT 0)), none), (.v (oMov (xT 1)), none), (.v (oIaddr 1 (xL 1) (xL 0)), none), (.v (oLoad (xL 0)), none), (.v (oMov (xT 0)), none), (.v (oMov (xT 7)), none), (.v (oIaddr 1 (xL 1) (xL 0)), none), (.v (oLoad (xL 0)), none), (.v (oIaddr 1 (xL 11) (xL 10)), none), (.h (oStore 1 (xL 0) (xL 5)), none), (.v (oIaddr 1 (xL 11) (xL 10)), none), (.h (oStore 1 (xL 0) (xL 3)), none)] 0 [none, none, none, none, none, none, none, none, none, none, none, none] [])
 (kSeq (kReg (sS 4 (xT 7) (sS 5 (xK (bool false)) sEnd)))
 kRet))))))))))))
theorem t310 : FF d310 Tryz.f310 a310 [(.t 4), (.t 5)] := ff Tryz.func310 (by kernel_rfl)
def x310 : XFn := .go a310 4 pd8 [(.t 4), (.t 5)]
def d311 : FD := ⟨311, 1, [2, 3, 20]⟩
def a311 : CodeF := (kSeq (kReg (sS 1 (xK (bool false)) sEnd))
 (kSeq (kSeq (kReg (sV (oLenL (xT 0)) (sV (oBin .sub .no (xL 0) (ki 1)) (sS 2 (xL 0) sEnd))))
 (kBlock 0 (kLoop (kSeq (kRegC (fun k => (sV (oBin .gtr .no (xT 2) (ki 0)) k)) (xL 0) kSkip
 (kExit 0))
 (kSeq (kBlock 1 (kSeq (kDraw [(.v (oMov (xT 0)), none), (.v (oMov (xT 2)), none), (.v (oIaddr 1 (xL 1) (xL 0)), none), (.v (oLoad (xL 0)), none), (.v (oMov (xT 0)), none), (.v (oMov (xT 2)), none), (.v (oBin .sub .no (xL 0) (ki 1)), none), (.v (oIaddr 1 (xL 2) (xL 0)), none), (.v (oLoad (xL 0)), none), (.c (cFn 308) [(xL 5), (xL 0)], none)] 0 [none, none, none, (some 0)] [])
 (kCond (xT 3) (kSeq (kReg (sS 1 (xK (bool false)) sEnd))
 kRet)
 kSkip)))
 (kReg (sV (oMov (xT 2)) (sV (oBin .sub .no (xL 0) (ki 1)) (sS 2 (xL 0) sEnd)))))))))
 (kSeq (kReg (sS 1 (xK (bool true)) sEnd))
 kRet)))
theorem t311 : FF d311 Tryz.f311 a311 [(.t 1)] := ff Tryz.func311 (by kernel_rfl)
def x311 : XFn := .go a311 1 pd3 [(.t 1)]
def d312 : FD := ⟨312, 3, [4, 5]⟩
def a312 : CodeF := (kSeq (kReg (sS 3 (ki 0) sEnd))
 (kBlock 0 (kLoop (kSeq (kRegC (fun k => (sV (oLoad (xT 1)) (sV (oLenL (xL 0)) (sV (oBin .lss .no (xT 3) (xL 0)) k)))) (xL 0) kSkip
 (kExit 0))
 (kSeq (kBlock 1 (kSeq (kDraw [(.v (oLoad (xT 2)), none), (.v (oLoad (xT 1)), none), (.v (oMov (xT 3)), none), (.v (oSlc 2 (xL 1) (some (xL 0)) none none), none), (.v (oLenL (xL 0)), none), (.v (oMm false (xL 4) [(xL 0)]), none), (.v (oMov (xL 0)), none)] 0 [none, none, none, none, (some 0)] [])
 (kRegC (fun k => (sV (oLoad (xT 1)) (sV (oBin .add .no (xT 3) (xT 4)) (sV (oBin .add .no (xT 3) (xT 4)) (sV (oSlc 2 (xL 2) (some (xT 3)) (some (xL 1)) (some (xL 0))) (sC (cVal (xT 0)) [(xL 0)] (sV (oUn .not (xL 0)) k))))))) (xL 0) kRet
 kSkip)))
 (kReg (sV (oMov (xT 3)) (sV (oLoad (xT 2)) (sV (oBin .add .no (xL 1) (xL 0)) (sS 3 (xL 0) sEnd))))))))))
theorem t312 : FF d312 Tryz.f312 a312 [] := ff Tryz.func312 (by kernel_rfl)
def x312 : XFn := .go a312 3 pd2 []
def d313 : FD := ⟨313, 1, [2]⟩
def a313 : CodeF := (kSeq (kReg (sS 1 (xK (bool false)) sEnd))
 (kSeq (kReg (sV (oBin .neq .no (xT 0) (xT 0)) (sS 1 (xL 0) sEnd)))
 kRet))
theorem t313 : FF d313 Tryz.f313 a313 [(.t 1)] := ff Tryz.func313 (by kernel_rfl)
def x313 : XFn := .go a313 1 pd1 [(.t 1)]
def d314 : FD := ⟨314, 5, [12, 10, 14, 13, 11, 97, 15, 17, 16, 19, 18, 20]⟩
def a314 : CodeF := (kSeq (kReg (sS 6 (xK (bool true)) sEnd))
 (kSeq (kReg (sS 9 (xK (bool true)) sEnd))
 (kBlock 0 (kLoop (kBlock 1 (kSeq (kReg (sV (oBin .sub .no (xT 2) (xT 1)) (sS 5 (xL 0) sEnd)))
 (kSeq (kRegC (fun k => (sV (oBin .leq .no (xT 5) (ki 12)) k)) (xL 0) (kSeq (kReg (sC (cFn 353) [(xT 0), (xT 1), (xT 2), (xT 4)] sEnd))
 kRet)
 kSkip)
 (kSeq (kRegC (fun k => (sV (oBin .eql .no (xT 3) (ki 0)) k)) (xL 0) (kSeq (kReg (sC (cFn 354) [(xT 0), (xT 1), (xT 2), (xT 4)] sEnd))
 kRet)
 kSkip)
 (kSeq (kRegC (fun k => (sV (oUn .not (xT 6)) k)) (xL 0) (kSeq (kReg (sC (cFn 355) [(xT 0), (xT 1), (xT 2), (xT 4)] sEnd))
 (kReg (sV (oMov (xT 3)) (sV (oBin .sub .no (xL 0) (ki 1)) (sS 3 (xL 0) sEnd)))))
 kSkip)
 (kSeq (kReg (sC (cFn 356) [(xT 0), (xT 1), (xT 2), (xT 4)] (sV (oExt 0 (xL 0)) (sV (oExt 1 (xL 1)) (sS 8 (xL 1) (sS 7 (xL 0) sEnd))))))
 (kSeq (kRegC (fun k => (sV (oBin .eql .no (xT 7) (ki 2)) k)) (xL 0) (kSeq (kReg (sC (cFn 357) [(xT 0), (xT 1), (xT 2), (xT 4)] sEnd))
 (kSeq (kReg (sV (oBin .sub .no (xT 2) (ki 1)) (sV (oMov (xT 8)) (sV (oBin .sub .no (xL 0) (xT 1)) (sV (oBin .sub .no (xL 2) (xL 0)) (sS 8 (xL 0) sEnd))))))
 (kReg (sS 7 (ki 1) sEnd))))
 kSkip)
 (kSeq (kRegC (fun k => (sG (xT 6) true (sV (oMov (xT 9))) (sV (oPick (xT 6) (xL 0) (xK (bool false))) (sG (xL 0) true (sV (oMov (xT 7))) (sG (xL 1) true (sV (oBin .eql .no (xL 0) (ki 1))) (sV (oPick (xL 2) (xL 0) (xK (bool false))) k)))))) (xL 0) (kRegC (fun k => (sC (cFn 358) [(xT 0), (xT 1), (xT 2), (xT 4)] k)) (xL 0) kRet
 kSkip)
 kSkip)
 (kSeq (kSeq (kDraw [(.v (oMov (xT 1)), none), (.v (oBin .gtr .no (xL 0) (ki 0)), none), (.v (oMov (xL 0)), none), (.v (oMov (xT 4)), (some ((xL 0), true))), (.v (oMov (xT 0)), (some ((xL 1), true))), (.v (oMov (xT 1)), (some ((xL 2), true))), (.v (oBin .sub .no (xL 0) (ki 1)), (some ((xL 3), true))), (.v (oIaddr 2 (xL 2) (xL 0)), (some ((xL 4), true))), (.v (oLoadN 2 (xL 0)), (some ((xL 5), true))), (.v (oMov (xT 0)), (some ((xL 6), true))), (.v (oMov (xT 8)), (some ((xL 7), true))), (.v (oIaddr 2 (xL 1) (xL 0)), (some ((xL 8), true))), (.v (oLoadN 2 (xL 0)), (some ((xL 9), true))), (.c (cVal (xL 9)) [(xL 4), (xL 0)], (some ((xL 10), true))), (.v (oBin .lss .no (xL 0) (ki 0)), (some ((xL 11), true))), (.v (oUn .not (xL 0)), (some ((xL 12), true))), (.v (oPick (xL 13) (xL 0) (xK (bool false))), none)] 0 [none, none, none, none, none, none, none, none, none, none, (some 0), none, none, none, none, none, none] [])
 (kCond (xT 10) (kSeq (kReg (sC (cFn 359) [(xT 0), (xT 1), (xT 2), (xT 8), (xT 4)] (sS 11 (xL 0) sEnd)))
 (kSeq (kReg (sS 1 (xT 11) sEnd))
 (kExit 1)))
 kSkip))
 (kSeq (kReg (sC (cFn 360) [(xT 0), (xT 1), (xT 2), (xT 8), (xT 4)] (sV (oExt 0 (xL 0)) (sV (oExt 1 (xL 1)) (sS 13 (xL 1) (sS 12 (xL 0) sEnd))))))
 (kSeq (kReg (sS 9 (xT 12) sEnd))
 (kSeq (kReg (sV (oBin .sub .no (xT 13) (xT 1)) (sV (oBin .sub .no (xT 2) (xT 13)) (sS 15 (xL 1) (sS 14 (xL 0) sEnd)))))
 (kSeq (kReg (sV (oBin .quo .no (xT 5) (ki 8)) (sS 16 (xL 0) sEnd)))
 (kRegC (fun k => (sV (oBin .lss .no (xT 15) (xT 14)) k)) (xL 0) (kSeq (kReg (sV (oBin .geq .no (xT 15) (xT 16)) (sS 6 (xL 0) sEnd)))
 (kSeq (kReg (sC (cFn 314) [(xT 0), (xT 1), (xT 13), (xT 3), (xT 4)] sEnd))
 (kReg (sV (oBin .add .no (xT 13) (ki 1)) (sS 1 (xL 0) sEnd)))))
 (kSeq (kReg (sV (oBin .geq .no (xT 14) (xT 16)) (sS 6 (xL 0) sEnd)))
 (kSeq (kReg (sV (oBin .add .no (xT 13) (ki 1)) (sC (cFn 314) [(xT 0), (xL 0), (xT 2), (xT 3), (xT 4)] sEnd)))
 (kReg (sS 2 (xT 13) sEnd))))))))))))))))))))))
theorem t314 : FF d314 Tryz.f314 a314 [] := ff Tryz.func314 (by kernel_rfl)
def x314 : XFn := .go a314 5 pd12 []
def d315 : FD := ⟨315, 3, [5, 4, 3]⟩
def a315 : CodeF := (kSeq (kReg (sH (oBox 242 2 (xT 0)) (sS 5 (xL 0) (sH (oBox 242 2 (xT 1)) (sS 4 (xL 0) (sS 3 (ki 0) sEnd))))))
 (kSeq (kDraw [(.v (oFaddr 1 (xT 5)), none), (.v (oLoad (xL 0)), none), (.v (oLoad (xT 2)), none), (.v (oIaddr 1 (xL 1) (xL 0)), none), (.v (oLoad (xL 0)), none), (.v (oFaddr 1 (xT 4)), none), (.v (oLoad (xL 0)), none), (.v (oLoad (xT 2)), none), (.v (oIaddr 1 (xL 1) (xL 0)), none), (.v (oLoad (xL 0)), none), (.c (cFn 317) [(xL 5), (xL 0)], none), (.v (oFaddr 1 (xT 5)), none), (.v (oLoad (xL 0)), none), (.v (oFaddr 1 (xT 4)), none), (.v (oLoad (xL 0)), none), (.c (cFn 318) [(xL 2), (xL 0)], none), (.v (oFaddr 0 (xT 5)), none), (.v (oLoad (xL 0)), none), (.v (oFaddr 0 (xT 4)), none), (.v (oLoad (xL 0)), none), (.c (cFn 319) [(xL 2), (xL 0)], none), (.h (oBsl 3 1 3 [(int .i64 (.ofNat 0))] [(0, 1, (xL 10)), (1, 1, (xL 5)), (2, 1, (xL 0))]), none), (.c (cFn 316) [(xL 0)], none), (.v (oMov (xL 0)), none)] 0 [none, none, none, (some 0), none, none] [(11, 13), (9, 13), (6, 13), (6, 8), (4, 13), (4, 8)])
 kRet))
theorem t315 : FF d315 Tryz.f315 a315 [(.t 3)] := ff Tryz.func315 (by kernel_rfl)
def x315 : XFn := .go a315 3 pd3 [(.t 3)]
def d316 : FD := ⟨316, 1, [2, 7, 8, 9, 6, 3, 5]⟩
def a316 : CodeF := (kSeq (kReg (sS 1 (ki 0) sEnd))
 (kSeq (kReg (sS 6 (ki 0) sEnd))
 (kSeq (kSeq (kReg (sS 5 (xT 0) (sV (oLenL (xT 5)) (sS 2 (xL 0) (sS 3 (ki 0) sEnd)))))
 (kBlock 0 (kLoop (kSeq (kReg (sV (oBin .lss .no (xT 3) (xT 2)) (sS 4 (xL 0) sEnd)))
 (kSeq (kCond (xT 4) kSkip
 (kExit 0))
 (kSeq (kBlock 1 (kSeq (kReg (sV (oIaddr 1 (xT 5) (xT 3)) (sV (oLoad (xL 0)) (sS 7 (xL 0) sEnd))))
 (kRegC (fun k => (sV (oBin .neq .no (xT 7) (xT 6)) k)) (xL 0) (kSeq (kReg (sS 1 (xT 7) sEnd))
 kRet)
 kSkip)))
 (kReg (sV (oBin .add .no (xT 3) (ki 1)) (sS 3 (xL 0) sEnd)))))))))
 (kSeq (kReg (sS 1 (xT 6) sEnd))
 kRet))))
theorem t316 : FF d316 Tryz.f316 a316 [(.t 1)] := ff Tryz.func316 (by kernel_rfl)
def x316 : XFn := .go a316 1 pd7 [(.t 1)]
def d317 : FD := ⟨317, 2, [4, 5, 6]⟩
def a317 : CodeF := (kSeq (kReg (sS 2 (ki 0) sEnd))
 (kSeq (kReg (sC (cFn 348) [(xT 0)] (sS 3 (xL 0) sEnd)))
 (kSeq (kReg (sC (cFn 348) [(xT 1)] (sS 4 (xL 0) sEnd)))
 (kSeq (kRegC (fun k => k) (xT 3) (kSeq (kRegC (fun k => k) (xT 4) (kSeq (kReg (sS 2 (ki 0) sEnd))
 kRet)
 kSkip)
 (kSeq (kReg (sS 2 (xK (int .i64 (.negSucc 0))) sEnd))
 kRet))
 kSkip)
 (kSeq (kRegC (fun k => k) (xT 4) (kSeq (kReg (sS 2 (ki 1) sEnd))
 kRet)
 kSkip)
 (kSeq (kRegC (fun k => (sV (oBin .lss .no (xT 0) (xT 1)) k)) (xL 0) (kSeq (kReg (sS 2 (xK (int .i64 (.negSucc 0))) sEnd))
 kRet)
 kSkip)
 (kSeq (kRegC (fun k => (sV (oBin .gtr .no (xT 0) (xT 1)) k)) (xL 0) (kSeq (kReg (sS 2 (ki 1) sEnd))
 kRet)
 kSkip)
 (kSeq (kReg (sS 2 (ki 0) sEnd))
 kRet))))))))
theorem t317 : FF d317 Tryz.f317 a317 [(.t 2)] := ff Tryz.func317 (by kernel_rfl)
def x317 : XFn := .go a317 2 pd3 [(.t 2)]
def d318 : FD := ⟨318, 2, [4, 10, 11, 12, 9, 5, 7, 6, 8]⟩
def a318 : CodeF := (kSeq (kReg (sS 2 (ki 0) sEnd))
 (kSeq (kSeq (kReg (sS 6 (xT 0) (sV (oLenL (xT 6)) (sS 3 (xL 0) (sS 4 (ki 0) sEnd)))))
 (kBlock 0 (kLoop (kSeq (kReg (sV (oBin .lss .no (xT 4) (xT 3)) (sS 5 (xL 0) sEnd)))
 (kSeq (kCond (xT 5) kSkip
 (kExit 0))
 (kSeq (kBlock 1 (kSeq (kReg (sV (oIaddr 1 (xT 6) (xT 4)) (sV (oLoad (xL 0)) (sS 7 (xT 4) (sS 9 (xL 0) sEnd)))))
 (kSeq (kRegC (fun k => (sV (oLenL (xT 1)) (sV (oBin .geq .no (xT 7) (xL 0)) k))) (xL 0) (kSeq (kReg (sS 2 (ki 1) sEnd))
 kRet)
 kSkip)
 (kSeq (kReg (sV (oIaddr 1 (xT 1) (xT 7)) (sV (oLoad (xL 0)) (sS 8 (xL 0) sEnd))))
 (kSeq (kReg (sC (cFn 317) [(xT 9), (xT 8)] (sS 10 (xL 0) sEnd)))
 (kRegC (fun k => (sV (oBin .neq .no (xT 10) (ki 0)) k)) (xL 0) (kSeq (kReg (sS 2 (xT 10) sEnd))
 kRet)
 kSkip))))))
 (kReg (sV (oBin .add .no (xT 4) (ki 1)) (sS 4 (xL 0) sEnd)))))))))
 (kSeq (kRegC (fun k => (sV (oLenL (xT 0)) (sV (oLenL (xT 1)) (sV (oBin .lss .no (xL 1) (xL 0)) k)))) (xL 0) (kSeq (kReg (sS 2 (xK (int .i64 (.negSucc 0))) sEnd))
 kRet)
 kSkip)
 (kSeq (kReg (sS 2 (ki 0) sEnd))
 kRet))))
theorem t318 : FF d318 Tryz.f318 a318 [(.t 2)] := ff Tryz.func318 (by kernel_rfl)
def x318 : XFn := .go a318 2 pd9 [(.t 2)]
def d319 : FD := ⟨319, 2, [4, 5, 6]⟩
def a319 : CodeF := (kSeq (kReg (sS 2 (ki 0) sEnd))
 (kSeq (kReg (sC (cFn 352) [(xT 0)] (sS 3 (xL 0) sEnd)))
 (kSeq (kReg (sC (cFn 352) [(xT 1)] (sS 4 (xL 0) sEnd)))
 (kSeq (kRegC (fun k => k) (xT 3) (kSeq (kRegC (fun k => k) (xT 4) (kSeq (kReg (sS 2 (ki 0) sEnd))
 kRet)
 kSkip)
 (kSeq (kReg (sS 2 (xK (int .i64 (.negSucc 0))) sEnd))
 kRet))
 kSkip)
 (kSeq (kRegC (fun k => k) (xT 4) (kSeq (kReg (sS 2 (ki 1) sEnd))
 kRet)
 kSkip)
 (kSeq (kRegC (fun k => (sV (oBin .lss .no (xT 0) (xT 1)) k)) (xL 0) (kSeq (kReg (sS 2 (xK (int .i64 (.negSucc 0))) sEnd))
 kRet)
 kSkip)
 (kSeq (kRegC (fun k => (sV (oBin .gtr .no (xT 0) (xT 1)) k)) (xL 0) (kSeq (kReg (sS 2 (ki 1) sEnd))
 kRet)
 kSkip)
 (kSeq (kReg (sS 2 (ki 0) sEnd))
 kRet))))))))
theorem t319 : FF d319 Tryz.f319 a319 [(.t 2)] := ff Tryz.func319 (by kernel_rfl)
def x319 : XFn := .go a319 2 pd3 [(.t 2)]
def d320 : FD := ⟨320, 1, [2, 1]⟩
def a320 : CodeF := (kSeq (kReg (sH (oBox 9 1 (xT 0)) (sS 2 (xL 0) (sS 1 (xK nilfunc) sEnd))))
 (kSeq (kReg (sV (oMkfn 361 [] [(xT 2)]) (sS 1 (xL 0) sEnd)))
 kRet))
theorem t320 : FF d320 Tryz.f320 a320 [(.t 1)] := ff Tryz.func320 (by kernel_rfl)
def x320 : XFn := .go a320 1 pd2 [(.t 1)]
def d321 : FD := ⟨321, 1, [2, 3, 12, 21, 26, 31, 38]⟩
def a321 : CodeF := (kSeq (kReg (sS 1 (xK (int .i32 (.ofNat 0))) sEnd))
 (kSeq (kBlock 0 (kSeq (kBlock 13 (kSeq (kBlock 12 (kSeq (kBlock 11 (kSeq (kBlock 10 (kSeq (kBlock 9 (kSeq (kBlock 8 (kSeq (kBlock 7 (kSeq (kBlock 6 (kSeq (kBlock 5 (kBlock 4 (kSeq (kBlock 3 (kSeq (kBlock 2 (kBlock 1 (kSeq (kSeq (kSeq (kRegC (fun k => (sC (cFn 324) [(xT 0), (xK (int .i32 (.ofNat 65))), (xK (int .i32 (.ofNat 90)))] (sS 2 (xL 0) k))) (xT 2) kSkip
 (kReg (sC (cFn 324) [(xT 0), (xK (int .i32 (.ofNat 192))), (xK (int .i32 (.ofNat 222)))] (sG (xL 0) true (sV (oMov (xT 0))) (sG (xL 1) true (sV (oBin .neq .no (xL 0) (xK (int .i32 (.ofNat 215))))) (sV (oPick (xL 2) (xL 0) (xK (bool false))) (sS 2 (xL 0) sEnd)))))))
 (kCond (xT 2) (kExit 1)
 kSkip))
 (kSeq (kSeq (kRegC (fun k => (sC (cFn 324) [(xT 0), (xK (int .i32 (.ofNat 913))), (xK (int .i32 (.ofNat 939)))] (sG (xL 0) true (sV (oMov (xT 0))) (sG (xL 1) true (sV (oBin .neq .no (xL 0) (xK (int .i32 (.ofNat 930))))) (sV (oPick (xL 2) (xL 0) (xK (bool false))) (sS 3 (xL 0) k)))))) (xT 3) kSkip
 (kReg (sC (cFn 324) [(xT 0), (xK (int .i32 (.ofNat 1040))), (xK (int .i32 (.ofNat 1071)))] (sS 3 (xL 0) sEnd))))
 (kCond (xT 3) (kExit 2)
 kSkip))
 (kSeq (kSeq (kRegC (fun k => (sV (oBin .eql .no (xT 0) (xK (int .i32 (.ofNat 304)))) (sS 4 (xL 0) k))) (xT 4) kSkip
 (kReg (sV (oBin .eql .no (xT 0) (xK (int .i32 (.ofNat 305)))) (sS 4 (xL 0) sEnd))))
 (kCond (xT 4) (kExit 3)
 kSkip))
 (kSeq (kSeq (kRegC (fun k => (sC (cFn 324) [(xT 0), (xK (int .i32 (.ofNat 256))), (xK (int .i32 (.ofNat 311)))] (sS 5 (xL 0) k))) (xT 5) kSkip
 (kReg (sC (cFn 324) [(xT 0), (xK (int .i32 (.ofNat 330))), (xK (int .i32 (.ofNat 375)))] (sS 5 (xL 0) sEnd))))
 (kCond (xT 5) (kExit 4)
 kSkip))
 (kSeq (kSeq (kRegC (fun k => (sC (cFn 324) [(xT 0), (xK (int .i32 (.ofNat 1120))), (xK (int .i32 (.ofNat 1153)))] (sS 6 (xL 0) k))) (xT 6) kSkip
 (kRegC (fun k => (sC (cFn 324) [(xT 0), (xK (int .i32 (.ofNat 1162))), (xK (int .i32 (.ofNat 1215)))] (sS 6 (xL 0) k))) (xT 6) kSkip
 (kReg (sC (cFn 324) [(xT 0), (xK (int .i32 (.ofNat 1232))), (xK (int .i32 (.ofNat 1327)))] (sS 6 (xL 0) sEnd)))))
 (kCond (xT 6) (kExit 5)
 kSkip))
 (kSeq (kSeq (kRegC (fun k => (sC (cFn 324) [(xT 0), (xK (int .i32 (.ofNat 313))), (xK (int .i32 (.ofNat 328)))] (sS 7 (xL 0) k))) (xT 7) kSkip
 (kRegC (fun k => (sC (cFn 324) [(xT 0), (xK (int .i32 (.ofNat 377))), (xK (int .i32 (.ofNat 382)))] (sS 7 (xL 0) k))) (xT 7) kSkip
 (kReg (sC (cFn 324) [(xT 0), (xK (int .i32 (.ofNat 1217))), (xK (int .i32 (.ofNat 1230)))] (sS 7 (xL 0) sEnd)))))
 (kCond (xT 7) (kExit 6)
 kSkip))
 (kSeq (kRegC (fun k => (sV (oBin .eql .no (xT 0) (xK (int .i32 (.ofNat 376)))) k)) (xL 0) (kExit 7)
 kSkip)
 (kSeq (kRegC (fun k => (sV (oBin .eql .no (xT 0) (xK (int .i32 (.ofNat 1216)))) k)) (xL 0) (kExit 8)
 kSkip)
 (kSeq (kRegC (fun k => (sV (oBin .eql .no (xT 0) (xK (int .i32 (.ofNat 902)))) k)) (xL 0) (kExit 9)
 kSkip)
 (kSeq (kRegC (fun k => (sC (cFn 324) [(xT 0), (xK (int .i32 (.ofNat 904))), (xK (int .i32 (.ofNat 906)))] k)) (xL 0) (kExit 10)
 kSkip)
 (kSeq (kRegC (fun k => (sV (oBin .eql .no (xT 0) (xK (int .i32 (.ofNat 908)))) k)) (xL 0) (kExit 11)
 kSkip)
 (kSeq (kRegC (fun k => (sC (cFn 324) [(xT 0), (xK (int .i32 (.ofNat 910))), (xK (int .i32 (.ofNat 911)))] k)) (xL 0) (kExit 12)
 kSkip)
 (kRegC (fun k => (sC (cFn 324) [(xT 0), (xK (int .i32 (.ofNat 1024))), (xK (int .i32 (.ofNat 1039)))] k)) (xL 0) (kExit 13)
 kSkip)))))))))))))
 (kExit 0))))
 (kSeq (kSeq (kReg (sV (oBin .add .no (xT 0) (xK (int .i32 (.ofNat 32)))) (sS 1 (xL 0) sEnd)))
 kRet)
 (kExit 0))))
 (kSeq (kSeq (kReg (sS 1 (xT 0) sEnd))
 kRet)
 (kExit 0)))))
 (kSeq (kSeq (kReg (sC (cFn 362) [(xT 0), (xK (int .i32 (.ofNat 0)))] (sS 1 (xL 0) sEnd)))
 kRet)
 (kExit 0))))
 (kSeq (kSeq (kReg (sC (cFn 362) [(xT 0), (xK (int .i32 (.ofNat 1)))] (sS 1 (xL 0) sEnd)))
 kRet)
 (kExit 0))))
 (kSeq (kSeq (kReg (sS 1 (xK (int .i32 (.ofNat 255))) sEnd))
 kRet)
 (kExit 0))))
 (kSeq (kSeq (kReg (sS 1 (xK (int .i32 (.ofNat 1231))) sEnd))
 kRet)
 (kExit 0))))
 (kSeq (kSeq (kReg (sS 1 (xK (int .i32 (.ofNat 940))) sEnd))
 kRet)
 (kExit 0))))
 (kSeq (kSeq (kReg (sV (oBin .add .no (xT 0) (xK (int .i32 (.ofNat 37)))) (sS 1 (xL 0) sEnd)))
 kRet)
 (kExit 0))))
 (kSeq (kSeq (kReg (sS 1 (xK (int .i32 (.ofNat 972))) sEnd))
 kRet)
 (kExit 0))))
 (kSeq (kSeq (kReg (sV (oBin .add .no (xT 0) (xK (int .i32 (.ofNat 63)))) (sS 1 (xL 0) sEnd)))
 kRet)
 (kExit 0))))
 (kSeq (kSeq (kReg (sV (oBin .add .no (xT 0) (xK (int .i32 (.ofNat 80)))) (sS 1 (xL 0) sEnd)))
 kRet)
 (kExit 0))))
 (kSeq (kReg (sS 1 (xT 0) sEnd))
 kRet)))
theorem t321 : FF d321 Tryz.f321 a321 [(.t 1)] := ff Tryz.func321 (by kernel_rfl)
def x321 : XFn := .go a321 1 pd7 [(.t 1)]
def d322 : FD := ⟨322, 2, [4, 5, 6]⟩
def a322 : CodeF := (kSeq (kReg (sS 2 (ki 0) (sS 3 (xK nilif) sEnd)))
 (kSeq (kReg (sC (cFn 325) [(xT 0)] sEnd))
 (kSeq (kReg (sV (oNilc (xT 0)) (sV (oFaddr 1 (xL 0)) (sV (oLoad (xL 0)) (sV (oLenL (xL 0)) (sS 4 (xL 0) sEnd))))))
 (kSeq (kReg (sV (oNilc (xT 0)) (sV (oFaddr 1 (xL 0)) (sV (oLoad (xL 0)) (sC (cFn 363) [(xL 0), (xT 1)] (sV (oNilc (xT 0)) (sV (oFaddr 1 (xL 0)) (sH (oStore 1 (xL 0) (xL 2)) sEnd))))))))
 (kSeq (kReg (sV (oNilc (xT 0)) (sV (oFaddr 1 (xL 0)) (sV (oLoad (xL 0)) (sV (oLenL (xL 0)) (sV (oBin .sub .no (xL 0) (xT 4)) (sS 2 (xL 0) (sS 3 (xK nilif) sEnd))))))))
 kRet)))))
theorem t322 : FF d322 Tryz.f322 a322 [(.t 2), (.t 3)] := ff Tryz.func322 (by kernel_rfl)
def x322 : XFn := .go a322 2 pd3 [(.t 2), (.t 3)]
def d323 : FD := ⟨323, 1, [2, 3]⟩
def a323 : CodeF := (kSeq (kReg (sS 1 (xK (int .i32 (.ofNat 0))) (sS 2 (ki 0) sEnd)))
 (kSeq (kRegC (fun k => (sV (oBin .neq .no (xT 0) (xK (str []))) (sG (xL 0) true (sV (oMov (xT 0))) (sG (xL 1) true (sV (oIdx (xL 0) (ki 0))) (sG (xL 2) true (sV (oBin .lss .no (xL 0) (xK (int .u8 (.ofNat 128))))) (sV (oPick (xL 3) (xL 0) (xK (bool false))) k)))))) (xL 0) (kSeq (kReg (sV (oIdx (xT 0) (ki 0)) (sV (oConv .i32 (xL 0)) (sS 1 (xL 0) (sS 2 (ki 1) sEnd)))))
 kRet)
 (kReg (sC (cFn 364) [(xT 0)] (sV (oExt 0 (xL 0)) (sV (oExt 1 (xL 1)) (sS 1 (xL 1) (sS 2 (xL 0) sEnd)))))))
 kRet))
theorem t323 : FF d323 Tryz.f323 a323 [(.t 1), (.t 2)] := ff Tryz.func323 (by kernel_rfl)
def x323 : XFn := .go a323 1 pd2 [(.t 1), (.t 2)]
def d324 : FD := ⟨324, 3, [6]⟩
def a324 : CodeF := (kSeq (kReg (sS 3 (xK (bool false)) sEnd))
 (kSeq (kReg (sV (oBin .leq .no (xT 1) (xT 0)) (sG (xL 0) true (sV (oMov (xT 0))) (sG (xL 1) true (sV (oMov (xT 2))) (sG (xL 2) true (sV (oBin .leq .no (xL 1) (xL 0))) (sV (oPick (xL 3) (xL 0) (xK (bool false))) (sS 3 (xL 0) sEnd)))))))
 kRet))
theorem t324 : FF d324 Tryz.f324 a324 [(.t 3)] := ff Tryz.func324 (by kernel_rfl)
def x324 : XFn := .go a324 3 pd1 [(.t 3)]
def d325 : FD := ⟨325, 1, []⟩
def a325 : CodeF := (kRegC (fun k => (sV (oNilc (xT 0)) (sV (oFaddr 0 (xL 0)) (sV (oLoad (xL 0)) (sV (oBin .eql .ptr (xL 0) (xK nilptr)) k))))) (xL 0) (kReg (sV (oP2u (xT 0)) (sC (cFn 365) [(xL 0)] (sV (oU2p 419 2 (xL 0)) (sV (oNilc (xT 0)) (sV (oFaddr 0 (xL 0)) (sH (oStore 1 (xL 0) (xL 2)) sEnd)))))))
 (kRegC (fun k => (sV (oNilc (xT 0)) (sV (oFaddr 0 (xL 0)) (sV (oLoad (xL 0)) (sV (oBin .neq .ptr (xL 0) (xT 0)) k))))) (xL 0) kBad
 kSkip))
theorem t325 : FF d325 Tryz.f325 a325 [] := ff Tryz.func325 (by kernel_rfl)
def x325 : XFn := .go a325 1 pd0 []
def d326 : FD := ⟨326, 1, [2]⟩
def a326 : CodeF := (kSeq (kReg (sS 1 (xK (bool false)) sEnd))
 (kSeq (kReg (sC (cFn 327) [(xT 0)] (sG (xL 0) false (sV (oMov (xT 0))) (sG (xL 1) false (sC (cFn 328) [(xL 0)]) (sV (oPick (xL 2) (xK (bool true)) (xL 0)) (sS 1 (xL 0) sEnd))))))
 kRet))
theorem t326 : FF d326 Tryz.f326 a326 [(.t 1)] := ff Tryz.func326 (by kernel_rfl)
def x326 : XFn := .go a326 1 pd1 [(.t 1)]
def d327 : FD := ⟨327, 1, [2, 3, 14, 21, 32, 53, 60]⟩
def a327 : CodeF := (kSeq (kReg (sS 1 (xK (bool false)) sEnd))
 (kSeq (kBlock 0 (kSeq (kBlock 7 (kBlock 6 (kBlock 5 (kBlock 4 (kBlock 3 (kBlock 2 (kBlock 1 (kSeq (kSeq (kSeq (kRegC (fun k => (sC (cFn 324) [(xT 0), (xK (int .i32 (.ofNat 65))), (xK (int .i32 (.ofNat 90)))] (sS 2 (xL 0) k))) (xT 2) kSkip
 (kRegC (fun k => (sC (cFn 324) [(xT 0), (xK (int .i32 (.ofNat 97))), (xK (int .i32 (.ofNat 122)))] (sS 2 (xL 0) k))) (xT 2) kSkip
 (kRegC (fun k => (sV (oBin .eql .no (xT 0) (xK (int .i32 (.ofNat 170)))) (sS 2 (xL 0) k))) (xT 2) kSkip
 (kRegC (fun k => (sV (oBin .eql .no (xT 0) (xK (int .i32 (.ofNat 181)))) (sS 2 (xL 0) k))) (xT 2) kSkip
 (kReg (sV (oBin .eql .no (xT 0) (xK (int .i32 (.ofNat 186)))) (sS 2 (xL 0) sEnd)))))))
 (kCond (xT 2) (kExit 1)
 kSkip))
 (kSeq (kSeq (kRegC (fun k => (sC (cFn 324) [(xT 0), (xK (int .i32 (.ofNat 192))), (xK (int .i32 (.ofNat 214)))] (sS 3 (xL 0) k))) (xT 3) kSkip
 (kRegC (fun k => (sC (cFn 324) [(xT 0), (xK (int .i32 (.ofNat 216))), (xK (int .i32 (.ofNat 246)))] (sS 3 (xL 0) k))) (xT 3) kSkip
 (kReg (sC (cFn 324) [(xT 0), (xK (int .i32 (.ofNat 248))), (xK (int .i32 (.ofNat 687)))] (sS 3 (xL 0) sEnd)))))
 (kCond (xT 3) (kExit 2)
 kSkip))
 (kSeq (kSeq (kRegC (fun k => (sC (cFn 324) [(xT 0), (xK (int .i32 (.ofNat 880))), (xK (int .i32 (.ofNat 883)))] (sS 4 (xL 0) k))) (xT 4) kSkip
 (kRegC (fun k => (sC (cFn 324) [(xT 0), (xK (int .i32 (.ofNat 886))), (xK (int .i32 (.ofNat 887)))] (sS 4 (xL 0) k))) (xT 4) kSkip
 (kRegC (fun k => (sC (cFn 324) [(xT 0), (xK (int .i32 (.ofNat 891))), (xK (int .i32 (.ofNat 893)))] (sS 4 (xL 0) k))) (xT 4) kSkip
 (kRegC (fun k => (sV (oBin .eql .no (xT 0) (xK (int .i32 (.ofNat 895)))) (sS 4 (xL 0) k))) (xT 4) kSkip
 (kReg (sV (oBin .eql .no (xT 0) (xK (int .i32 (.ofNat 902)))) (sS 4 (xL 0) sEnd)))))))
 (kCond (xT 4) (kExit 3)
 kSkip))
 (kSeq (kSeq (kRegC (fun k => (sC (cFn 324) [(xT 0), (xK (int .i32 (.ofNat 904))), (xK (int .i32 (.ofNat 906)))] (sS 5 (xL 0) k))) (xT 5) kSkip
 (kRegC (fun k => (sV (oBin .eql .no (xT 0) (xK (int .i32 (.ofNat 908)))) (sS 5 (xL 0) k))) (xT 5) kSkip
 (kRegC (fun k => (sC (cFn 324) [(xT 0), (xK (int .i32 (.ofNat 910))), (xK (int .i32 (.ofNat 929)))] (sS 5 (xL 0) k))) (xT 5) kSkip
 (kReg (sC (cFn 324) [(xT 0), (xK (int .i32 (.ofNat 931))), (xK (int .i32 (.ofNat 1023)))] (sG (xL 0) true (sV (oMov (xT 0))) (sG (xL 1) true (sV (oBin .neq .no (xL 0) (xK (int .i32 (.ofNat 1014))))) (sV (oPick (xL 2) (xL 0) (xK (bool false))) (sS 5 (xL 0) sEnd)))))))))
 (kCond (xT 5) (kExit 4)
 kSkip))
 (kSeq (kRegC (fun k => (sC (cFn 324) [(xT 0), (xK (int .i32 (.ofNat 1024))), (xK (int .i32 (.ofNat 1327)))] (sG (xL 0) true (sV (oMov (xT 0))) (sG (xL 1) true (sC (cFn 324) [(xL 0), (xK (int .i32 (.ofNat 1154))), (xK (int .i32 (.ofNat 1161)))]) (sG (xL 2) true (sV (oUn .not (xL 0))) (sV (oPick (xL 3) (xL 0) (xK (bool false))) k)))))) (xL 0) (kExit 5)
 kSkip)
 (kSeq (kSeq (kRegC (fun k => (sC (cFn 324) [(xT 0), (xK (int .i32 (.ofNat 1488))), (xK (int .i32 (.ofNat 1514)))] (sS 6 (xL 0) k))) (xT 6) kSkip
 (kRegC (fun k => (sC (cFn 324) [(xT 0), (xK (int .i32 (.ofNat 1568))), (xK (int .i32 (.ofNat 1610)))] (sS 6 (xL 0) k))) (xT 6) kSkip
 (kReg (sC (cFn 324) [(xT 0), (xK (int .i32 (.ofNat 2308))), (xK (int .i32 (.ofNat 2361)))] (sS 6 (xL 0) sEnd)))))
 (kCond (xT 6) (kExit 6)
 kSkip))
 (kSeq (kRegC (fun k => (sC (cFn 324) [(xT 0), (xK (int .i32 (.ofNat 12353))), (xK (int .i32 (.ofNat 12438)))] (sS 7 (xL 0) k))) (xT 7) kSkip
 (kRegC (fun k => (sC (cFn 324) [(xT 0), (xK (int .i32 (.ofNat 12449))), (xK (int .i32 (.ofNat 12538)))] (sS 7 (xL 0) k))) (xT 7) kSkip
 (kRegC (fun k => (sC (cFn 324) [(xT 0), (xK (int .i32 (.ofNat 19968))), (xK (int .i32 (.ofNat 40959)))] (sS 7 (xL 0) k))) (xT 7) kSkip
 (kReg (sC (cFn 324) [(xT 0), (xK (int .i32 (.ofNat 44032))), (xK (int .i32 (.ofNat 55203)))] (sS 7 (xL 0) sEnd))))))
 (kCond (xT 7) (kExit 7)
 kSkip))))))))
 (kExit 0)))))))))
 (kSeq (kSeq (kReg (sS 1 (xK (bool true)) sEnd))
 kRet)
 (kExit 0))))
 (kSeq (kReg (sS 1 (xK (bool false)) sEnd))
 kRet)))
theorem t327 : FF d327 Tryz.f327 a327 [(.t 1)] := ff Tryz.func327 (by kernel_rfl)
def x327 : XFn := .go a327 1 pd7 [(.t 1)]
def d328 : FD := ⟨328, 1, [2]⟩
def a328 : CodeF := (kSeq (kReg (sS 1 (xK (bool false)) sEnd))
 (kSeq (kReg (sC (cFn 324) [(xT 0), (xK (int .i32 (.ofNat 48))), (xK (int .i32 (.ofNat 57)))] (sG (xL 0) false (sV (oMov (xT 0))) (sG (xL 1) false (sC (cFn 324) [(xL 0), (xK (int .i32 (.ofNat 1632))), (xK (int .i32 (.ofNat 1641)))]) (sV (oPick (xL 2) (xK (bool true)) (xL 0)) (sG (xL 0) false (sV (oMov (xT 0))) (sG (xL 1) false (sC (cFn 324) [(xL 0), (xK (int .i32 (.ofNat 2406))), (xK (int .i32 (.ofNat 2415)))]) (sV (oPick (xL 2) (xK (bool true)) (xL 0)) (sG (xL 0) false (sV (oMov (xT 0))) (sG (xL 1) false (sC (cFn 324) [(xL 0), (xK (int .i32 (.ofNat 65296))), (xK (int .i32 (.ofNat 65305)))]) (sV (oPick (xL 2) (xK (bool true)) (xL 0)) (sS 1 (xL 0) sEnd))))))))))))
 kRet))
theorem t328 : FF d328 Tryz.f328 a328 [(.t 1)] := ff Tryz.func328 (by kernel_rfl)
def x328 : XFn := .go a328 1 pd1 [(.t 1)]
def d329 : FD := ⟨329, 2, [3]⟩
def a329 : CodeF := (kSeq (kReg (sS 2 (xK (bool false)) sEnd))
 (kSeq (kReg (sV (oLoad (xT 1)) (sC (cVal (xL 0)) [(xT 0)] (sG (xL 0) false (sV (oMov (xT 0))) (sG (xL 1) false (sC (cFn 266) [(xL 0)]) (sV (oPick (xL 2) (xK (bool true)) (xL 0)) (sS 2 (xL 0) sEnd)))))))
 kRet))
theorem t329 : FF d329 Tryz.f329 a329 [(.t 2)] := ff Tryz.func329 (by kernel_rfl)
def x329 : XFn := .go a329 2 pd1 [(.t 2)]
def d330 : FD := ⟨330, 4, []⟩
def a330 : CodeF := (kSeq (kRegC (fun k => (sV (oLoad (xT 1)) (sV (oBin .geq .no (xL 0) (ki 0)) k))) (xL 0) (kDraw [(.v (oLoad (xT 2)), none), (.v (oLoad (xT 3)), none), (.v (oLoad (xT 1)), none), (.v (oMov (xT 0)), none), (.v (oSlcs (xL 2) (some (xL 1)) (some (xL 0))), none), (.v (oLoad (xT 2)), none), (.v (oLenL (xL 0)), none), (.v (oLoad (xT 1)), none), (.v (oMov (xT 0)), none), (.v (oBuild [(str []), (int .i64 (.ofNat 0)), (int .i64 (.ofNat 0)), (int .i64 (.ofNat 0))] [(0, 1, (xL 4)), (1, 1, (xL 2)), (2, 1, (xL 1)), (3, 1, (xL 0))]), none), (.h (oBsl 314 4 1 [(str []), (int .i64 (.ofNat 0)), (int .i64 (.ofNat 0)), (int .i64 (.ofNat 0))] [(0, 4, (xL 0))]), none), (.h (oApp 314 4 (xL 10) (xL 0)), none), (.h (oStore 1 (xT 2) (xL 0)), none)] 0 [none, none, none, none] [(12, 2)])
 kSkip)
 (kReg (sH (oStore 1 (xT 1) (xK (int .i64 (.negSucc 0)))) sEnd)))
theorem t330 : FF d330 Tryz.f330 a330 [] := ff Tryz.func330 (by kernel_rfl)
def x330 : XFn := .go a330 4 pd0 []
def d331 : FD := ⟨331, 2, [4]⟩
def a331 : CodeF := (kSeq (kReg (sS 2 (xK (bool false)) sEnd))
 (kSeq (kReg (sV (oLenS (xT 0)) (sV (oLenS (xT 1)) (sV (oBin .geq .no (xL 1) (xL 0)) (sG (xL 0) true (sV (oMov (xT 0))) (sG (xL 1) true (sV (oMov (xT 1))) (sG (xL 2) true (sV (oLenS (xL 0))) (sG (xL 3) true (sV (oSlcs (xL 2) none (some (xL 0)))) (sG (xL 4) true (sV (oMov (xT 1))) (sG (xL 5) true (sV (oBin .eql .no (xL 1) (xL 0))) (sV (oPick (xL 6) (xL 0) (xK (bool false))) (sS 2 (xL 0) sEnd))))))))))))
 kRet))
theorem t331 : FF d331 Tryz.f331 a331 [(.t 2)] := ff Tryz.func331 (by kernel_rfl)
def x331 : XFn := .go a331 2 pd1 [(.t 2)]
def d332 : FD := ⟨332, 2, [4, 5, 9, 8, 6, 11, 7, 10, 12, 13]⟩
def a332 : CodeF := (kSeq (kReg (sS 2 (ki 0) sEnd))
 (kSeq (kReg (sV (oLenS (xT 1)) (sS 3 (xL 0) sEnd)))
 (kSeq (kBlock 0 (kRegC (fun k => (sV (oBin .eql .no (xT 3) (ki 0)) (sG (xL 0) false (sV (oMov (xT 1))) (sG (xL 1) false (sV (oMov (xT 0))) (sG (xL 2) false (sV (oBin .eql .no (xL 1) (xL 0))) (sV (oPick (xL 3) (xK (bool true)) (xL 0)) k)))))) (xL 0) (kSeq (kReg (sS 2 (ki 0) sEnd))
 kRet)
 (kRegC (fun k => (sV (oBin .eql .no (xT 3) (ki 1)) k)) (xL 0) (kSeq (kReg (sV (oIdx (xT 1) (ki 0)) (sC (cFn 366) [(xT 0), (xL 0)] (sS 2 (xL 0) sEnd))))
 kRet)
 (kRegC (fun k => (sV (oLenS (xT 0)) (sV (oBin .geq .no (xT 3) (xL 0)) k))) (xL 0) (kSeq (kReg (sS 2 (xK (int .i64 (.negSucc 0))) sEnd))
 kRet)
 (kRegC (fun k => (sV (oLoad (xK (ptr 1 0))) (sV (oBin .leq .no (xT 3) (xL 0)) (sG (xL 0) true (sV (oMov (xT 0))) (sG (xL 1) true (sV (oLenS (xL 0))) (sG (xL 2) true (sV (oBin .leq .no (xL 0) (ki 64))) (sV (oPick (xL 3) (xL 0) (xK (bool false))) k))))))) (xL 0) (kSeq (kReg (sC (cFn 367) [(xT 0), (xT 1)] (sS 2 (xL 0) sEnd)))
 kRet)
 kSkip)))))
 (kSeq (kReg (sV (oIdx (xT 1) (ki 0)) (sS 6 (xL 0) sEnd)))
 (kSeq (kReg (sV (oIdx (xT 1) (ki 1)) (sS 8 (xL 0) sEnd)))
 (kSeq (kReg (sS 5 (ki 0) sEnd))
 (kSeq (kReg (sV (oLenS (xT 0)) (sV (oBin .sub .no (xL 0) (xT 3)) (sV (oBin .add .no (xL 0) (ki 1)) (sS 4 (xL 0) sEnd)))))
 (kSeq (kReg (sS 9 (ki 0) sEnd))
 (kSeq (kBlock 1 (kLoop (kSeq (kRegC (fun k => (sV (oBin .lss .no (xT 5) (xT 4)) k)) (xL 0) kSkip
 (kExit 1))
 (kBlock 2 (kSeq (kRegC (fun k => (sV (oIdx (xT 0) (xT 5)) (sV (oBin .neq .no (xL 0) (xT 6)) k))) (xL 0) (kSeq (kReg (sV (oBin .add .no (xT 5) (ki 1)) (sV (oSlcs (xT 0) (some (xL 0)) (some (xT 4))) (sC (cFn 366) [(xL 0), (xT 6)] (sS 7 (xL 0) sEnd)))))
 (kSeq (kRegC (fun k => (sV (oBin .lss .no (xT 7) (ki 0)) k)) (xL 0) (kSeq (kReg (sS 2 (xK (int .i64 (.negSucc 0))) sEnd))
 kRet)
 kSkip)
 (kReg (sV (oMov (xT 5)) (sV (oBin .add .no (xT 7) (ki 1)) (sV (oBin .add .no (xL 1) (xL 0)) (sS 5 (xL 0) sEnd)))))))
 kSkip)
 (kSeq (kRegC (fun k => (sV (oBin .add .no (xT 5) (ki 1)) (sV (oIdx (xT 0) (xL 0)) (sV (oBin .eql .no (xL 0) (xT 8)) (sG (xL 0) true (sV (oMov (xT 0))) (sG (xL 1) true (sV (oMov (xT 5))) (sG (xL 2) true (sV (oMov (xT 5))) (sG (xL 3) true (sV (oMov (xT 3))) (sG (xL 4) true (sV (oBin .add .no (xL 1) (xL 0))) (sG (xL 5) true (sV (oSlcs (xL 4) (some (xL 3)) (some (xL 0)))) (sG (xL 6) true (sV (oMov (xT 1))) (sG (xL 7) true (sV (oBin .eql .no (xL 1) (xL 0))) (sV (oPick (xL 8) (xL 0) (xK (bool false))) k))))))))))))) (xL 0) (kSeq (kReg (sS 2 (xT 5) sEnd))
 kRet)
 kSkip)
 (kSeq (kReg (sV (oMov (xT 5)) (sV (oBin .add .no (xL 0) (ki 1)) (sS 5 (xL 0) sEnd))))
 (kSeq (kReg (sV (oMov (xT 9)) (sV (oBin .add .no (xL 0) (ki 1)) (sS 9 (xL 0) sEnd))))
 (kRegC (fun k => (sV (oLoad (xK (ptr 1 0))) (sV (oBin .leq .no (xT 3) (xL 0)) (sG (xL 0) true (sV (oMov (xT 9))) (sG (xL 1) true (sV (oMov (xT 5))) (sG (xL 2) true (sC (cFn 368) [(xL 0)]) (sG (xL 3) true (sV (oBin .gtr .no (xL 2) (xL 0))) (sV (oPick (xL 4) (xL 0) (xK (bool false))) k)))))))) (xL 0) (kSeq (kReg (sV (oSlcs (xT 0) (some (xT 5)) none) (sC (cFn 367) [(xL 0), (xT 1)] (sS 10 (xL 0) sEnd))))
 (kSeq (kRegC (fun k => (sV (oBin .geq .no (xT 10) (ki 0)) k)) (xL 0) (kSeq (kReg (sV (oBin .add .no (xT 10) (xT 5)) (sS 2 (xL 0) sEnd)))
 kRet)
 kSkip)
 (kSeq (kReg (sS 2 (xK (int .i64 (.negSucc 0))) sEnd))
 kRet)))
 (kRegC (fun k => (sV (oLoad (xK (ptr 1 0))) (sV (oBin .gtr .no (xT 3) (xL 0)) (sG (xL 0) true (sV (oMov (xT 9))) (sG (xL 1) true (sV (oMov (xT 5))) (sG (xL 2) true (sV (oBin .shr .no (xL 0) (xK (int .u64 (.ofNat 4))))) (sG (xL 3) true (sV (oBin .add .no (ki 4) (xL 0))) (sG (xL 4) true (sV (oBin .geq .no (xL 3) (xL 0))) (sV (oPick (xL 5) (xL 0) (xK (bool false))) (sG (xL 0) true (sV (oMov (xT 5))) (sG (xL 1) true (sV (oMov (xT 4))) (sG (xL 2) true (sV (oBin .lss .no (xL 1) (xL 0))) (sV (oPick (xL 3) (xL 0) (xK (bool false))) k))))))))))))) (xL 0) (kSeq (kReg (sV (oSlcs (xT 0) (some (xT 5)) none) (sC (cFn 369) [(xL 0), (xT 1)] (sS 11 (xL 0) sEnd))))
 (kSeq (kRegC (fun k => (sV (oBin .lss .no (xT 11) (ki 0)) k)) (xL 0) (kSeq (kReg (sS 2 (xK (int .i64 (.negSucc 0))) sEnd))
 kRet)
 kSkip)
 (kSeq (kReg (sV (oBin .add .no (xT 5) (xT 11)) (sS 2 (xL 0) sEnd)))
 kRet)))
 kSkip))))))))))
 (kSeq (kReg (sS 2 (xK (int .i64 (.negSucc 0))) sEnd))
 kRet))))))))))
theorem t332 : FF d332 Tryz.f332 a332 [(.t 2)] := ff Tryz.func332 (by kernel_rfl)
def x332 : XFn := .go a332 2 pd10 [(.t 2)]
end
end Go.Proofs.YtohoankmbhlafabGreatDoor
