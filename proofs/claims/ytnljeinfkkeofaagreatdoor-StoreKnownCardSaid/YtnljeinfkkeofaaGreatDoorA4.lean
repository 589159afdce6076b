import Derived.Test.YtnljeinfkkeofaaGreatDoorP
import Derived.Test.YtnljeinfkkeofaaGreatDoorProg
import Derived.KernelRfl
/- The functions of the program as the interpreter has them; each is the program's, by the kernel. -/
set_option maxRecDepth 1000000
namespace Go.Proofs.YtnljeinfkkeofaaGreatDoor
open Go Go.Ai AVal
noncomputable section
def d271 : FD := ⟨271, 2, [4]⟩
def a271 : CodeF := (kSeq (kReg (sS 2 (xK nils) sEnd))
 (kSeq (kRegC (fun k => (sV (oBin .lss .no (xT 1) (ki 0)) k)) (xL 0) (kReg (sV (oMkif 9 (xK (str [99, 97, 110, 110, 111, 116, 32, 98, 101, 32, 110, 101, 103, 97, 116, 105, 118, 101]))) (sPan (xL 0))))
 kSkip)
 (kSeq (kSeq (kReg (sV (oMov (xT 1)) (sV (oCap (xT 0)) (sV (oLenL (xT 0)) (sV (oBin .sub .no (xL 1) (xL 0)) (sV (oBin .sub .no (xL 3) (xL 0)) (sS 1 (xL 0) sEnd)))))))
 (kRegC (fun k => (sV (oBin .gtr .no (xT 1) (ki 0)) k)) (xL 0) (kReg (sV (oMov (xT 0)) (sV (oMov (xT 0)) (sV (oCap (xL 0)) (sV (oSlc 1 (xL 2) none (some (xL 0)) none) (sH (oAppm 5 1 [(int .u8 (.ofNat 0))] (xL 0) (xT 1)) (sV (oMov (xT 0)) (sV (oLenL (xL 0)) (sV (oSlc 1 (xL 2) none (some (xL 0)) none) (sS 0 (xL 0) sEnd))))))))))
 kSkip))
 (kSeq (kReg (sS 2 (xT 0) sEnd))
 kRet))))
theorem t271 : FF d271 Tryz.f271 a271 [(.t 2)] := ff Tryz.func271 (by kernel_rfl)
def x271 : XFn := .go a271 2 pd1 [(.t 2)]
def d272 : FD := ⟨272, 0, [0, 3, 4, 2, 1]⟩
def a272 : CodeF := (kSeq (kReg (sH (oAlloc 371 16 [(int .u32 (.ofNat 0)), (int .u32 (.ofNat 0)), (int .u32 (.ofNat 0)), (int .u32 (.ofNat 0)), (int .u32 (.ofNat 0)), (int .u32 (.ofNat 0)), (int .u32 (.ofNat 0)), (int .u32 (.ofNat 0)), (int .u32 (.ofNat 0)), (int .u32 (.ofNat 0)), (int .u32 (.ofNat 0)), (int .u32 (.ofNat 0)), (int .u32 (.ofNat 0)), (int .u32 (.ofNat 0)), (int .u32 (.ofNat 0)), (int .u32 (.ofNat 0))]) (sS 0 (xL 0) sEnd)))
 (kSeq (kReg (sS 4 (xK (.func (.func 335) [] [])) sEnd))
 (kSeq (kSeq (kReg (sS 1 (ki 0) sEnd))
 (kBlock 0 (kLoop (kSeq (kReg (sV (oBin .lss .no (xT 1) (ki 16)) (sS 2 (xL 0) sEnd)))
 (kSeq (kCond (xT 2) kSkip
 (kExit 0))
 (kSeq (kBlock 1 (kSeq (kReg (sS 3 (xT 1) sEnd))
 (kReg (sV (oConv .u32 (xT 3)) (sC (cVal (xT 4)) [(xL 0)] (sV (oIaddra 16 1 (xT 0) (xT 3)) (sH (oStore 1 (xL 0) (xL 1)) sEnd)))))))
 (kReg (sV (oBin .add .no (xT 1) (ki 1)) (sS 1 (xL 0) sEnd)))))))))
 (kSeq (kReg (sV (oLoadN 16 (xT 0)) (sH (oStore 16 (xT 0) (xL 0)) sEnd)))
 kRet))))
theorem t272 : FF d272 Tryz.f272 a272 [(.cell 0 (some 16))] := ff Tryz.func272 (by kernel_rfl)
def x272 : XFn := .go a272 0 pd5 [(.cell 0 (some 16))]
def d273 : FD := ⟨273, 2, [4, 7, 8, 9, 5]⟩
def a273 : CodeF := (kSeq (kReg (sS 2 (ki 0) sEnd))
 (kSeq (kSeq (kReg (sV (oLenL (xT 0)) (sS 3 (xL 0) (sS 4 (ki 0) sEnd))))
 (kBlock 0 (kLoop (kSeq (kReg (sV (oBin .lss .no (xT 4) (xT 3)) (sS 5 (xL 0) sEnd)))
 (kSeq (kCond (xT 5) kSkip
 (kExit 0))
 (kSeq (kBlock 1 (kSeq (kReg (sS 6 (xT 4) sEnd))
 (kRegC (fun k => (sV (oIaddr 7 (xT 0) (xT 6)) (sV (oLoadN 7 (xL 0)) (sC (cVal (xT 1)) [(xL 0)] k)))) (xL 0) (kSeq (kReg (sS 2 (xT 6) sEnd))
 kRet)
 kSkip)))
 (kReg (sV (oBin .add .no (xT 4) (ki 1)) (sS 4 (xL 0) sEnd)))))))))
 (kSeq (kReg (sS 2 (xK (int .i64 (.negSucc 0))) sEnd))
 kRet)))
theorem t273 : FF d273 Tryz.f273 a273 [(.t 2)] := ff Tryz.func273 (by kernel_rfl)
def x273 : XFn := .go a273 2 pd5 [(.t 2)]
def d274 : FD := ⟨274, 2, [3, 2]⟩
def a274 : CodeF := (kSeq (kReg (sH (oBox 48 7 (xT 0)) (sS 3 (xL 0) (sS 2 (xK (bool false)) sEnd))))
 (kSeq (kReg (sV (oFaddr 0 (xT 3)) (sV (oLoad (xL 0)) (sV (oLoad (xT 1)) (sV (oBin .eql .no (xL 1) (xL 0)) (sS 2 (xL 0) sEnd))))))
 kRet))
theorem t274 : FF d274 Tryz.f274 a274 [(.t 2)] := ff Tryz.func274 (by kernel_rfl)
def x274 : XFn := .go a274 2 pd2 [(.t 2)]
def d278 : FD := ⟨278, 4, []⟩
def a278 : CodeF := (kSeq (kRegC (fun k => (sV (oNilc (xT 0)) (sV (oFaddr 8 (xL 0)) (sV (oLoad (xL 0)) (sV (oLook .str nilmap false (xL 0) (xT 1)) (sV (oBin .eql .map (xL 0) (xK nilmap)) k)))))) (xL 0) (kReg (sV (oNilc (xT 0)) (sV (oFaddr 8 (xL 0)) (sV (oLoad (xL 0)) (sH oMkmap (sH (oMupd .str (xL 1) (xT 1) (xL 0)) sEnd))))))
 kSkip)
 (kDraw [(.v (oMov (xT 0)), none), (.v (oNilc (xL 0)), none), (.v (oFaddr 8 (xL 0)), none), (.v (oLoad (xL 0)), none), (.v (oMov (xT 1)), none), (.v (oLook .str nilmap false (xL 1) (xL 0)), none), (.v (oMov (xT 2)), none), (.v (oMov (xT 0)), none), (.v (oNilc (xL 0)), none), (.v (oFaddr 8 (xL 0)), none), (.v (oLoad (xL 0)), none), (.v (oMov (xT 1)), none), (.v (oLook .str nilmap false (xL 1) (xL 0)), none), (.v (oMov (xT 2)), none), (.v (oLook .int nils false (xL 1) (xL 0)), none), (.v (oMov (xT 3)), none), (.h (oBsl 3 1 1 [(int .i64 (.ofNat 0))] [(0, 1, (xL 0))]), none), (.h (oApp 3 1 (xL 2) (xL 0)), none), (.h (oMupd .int (xL 12) (xL 11) (xL 0)), none)] 0 [none, none, none, none] [(15, 2), (15, 1), (13, 2), (13, 1), (8, 2), (6, 2), (4, 2)]))
theorem t278 : FF d278 Tryz.f278 a278 [] := ff Tryz.func278 (by kernel_rfl)
def x278 : XFn := .go a278 4 pd0 []
def d280 : FD := ⟨280, 2, [5, 7, 3]⟩
def a280 : CodeF := (kSeq (kReg (sV (oLoad (xT 1)) (sH (oRngM (xL 0)) (sS 2 (xL 0) sEnd))))
 (kBlock 0 (kLoop (kSeq (kReg (sNext (xT 2) (sV (oExt 0 (xL 0)) (sS 3 (xL 0) sEnd))))
 (kSeq (kCond (xT 3) kSkip
 (kExit 0))
 (kBlock 1 (kSeq (kReg (sV (oEnt (xT 2)) (sV (oExt 0 (xL 0)) (sS 4 (xL 0) sEnd))))
 (kRegC (fun k => (sC (cVal (xT 0)) [(xT 4)] (sV (oUn .not (xL 0)) k))) (xL 0) kRet
 kSkip))))))))
theorem t280 : FF d280 Tryz.f280 a280 [] := ff Tryz.func280 (by kernel_rfl)
def x280 : XFn := .go a280 2 pd3 []
def d281 : FD := ⟨281, 1, [2]⟩
def a281 : CodeF := (kSeq (kReg (sS 1 (xK nils) sEnd))
 (kSeq (kReg (sC (cFn 343) [(xK nils), (xT 0)] (sS 1 (xL 0) sEnd)))
 kRet))
theorem t281 : FF d281 Tryz.f281 a281 [(.t 1)] := ff Tryz.func281 (by kernel_rfl)
def x281 : XFn := .go a281 1 pd1 [(.t 1)]
def d282 : FD := ⟨282, 1, [2]⟩
def a282 : CodeF := (kSeq (kReg (sV (oLenL (xT 0)) (sS 1 (xL 0) sEnd)))
 (kReg (sV (oConv .u64 (xT 1)) (sC (cFn 68) [(xL 0)] (sC (cFn 344) [(xT 0), (ki 0), (xT 1), (xL 0)] sEnd)))))
theorem t282 : FF d282 Tryz.f282 a282 [] := ff Tryz.func282 (by kernel_rfl)
def x282 : XFn := .go a282 1 pd1 []
def d283 : FD := ⟨283, 2, [5, 7, 3]⟩
def a283 : CodeF := (kSeq (kReg (sV (oLoad (xT 1)) (sH (oRngM (xL 0)) (sS 2 (xL 0) sEnd))))
 (kBlock 0 (kLoop (kSeq (kReg (sNext (xT 2) (sV (oExt 0 (xL 0)) (sS 3 (xL 0) sEnd))))
 (kSeq (kCond (xT 3) kSkip
 (kExit 0))
 (kBlock 1 (kSeq (kReg (sV (oEnt (xT 2)) (sV (oExt 0 (xL 0)) (sS 4 (xL 0) sEnd))))
 (kRegC (fun k => (sC (cVal (xT 0)) [(xT 4)] (sV (oUn .not (xL 0)) k))) (xL 0) kRet
 kSkip))))))))
theorem t283 : FF d283 Tryz.f283 a283 [] := ff Tryz.func283 (by kernel_rfl)
def x283 : XFn := .go a283 2 pd3 []
def d284 : FD := ⟨284, 2, [4, 3, 6, 8, 7, 5]⟩
def a284 : CodeF := (kSeq (kReg (sV (oFaddr 2 (xT 1)) (sV (oLoad (xL 0)) (sC (cFn 109) [(xL 0)] (sS 3 (xL 0) sEnd)))))
 (kSeq (kSeq (kReg (sV (oFaddr 0 (xT 1)) (sV (oLoad (xL 0)) (sS 2 (xL 0) sEnd))))
 (kBlock 0 (kLoop (kSeq (kRegC (fun k => (sV (oFaddr 1 (xT 1)) (sV (oLoad (xL 0)) (sV (oBin .lss .no (xT 2) (xL 0)) k)))) (xL 0) kSkip
 (kExit 0))
 (kSeq (kBlock 1 (kSeq (kReg (sS 7 (xK nils) sEnd))
 (kSeq (kSeq (kReg (sC (cFn 110) [(xT 3), (ki 64)] (sS 4 (xL 0) sEnd)))
 (kBlock 2 (kLoop (kSeq (kRegC (fun k => (sV (oBin .gtr .no (xT 4) (ki 0)) k)) (xL 0) kSkip
 (kExit 2))
 (kSeq (kBlock 3 (kSeq (kReg (sC (cFn 245) [(xT 3), (ki 24)] (sC (cFn 245) [(xT 3), (ki 4096)] (sV (oBuild [(str []), (str []), nils] [(0, 1, (xL 1)), (1, 1, (xL 0))]) (sH (oAlloc 81 3 [(str []), (str []), nils]) (sS 6 (xL 0) (sH (oStore 3 (xT 6) (xL 1)) sEnd)))))))
 (kSeq (kSeq (kReg (sC (cFn 110) [(xT 3), (ki 4)] (sS 5 (xL 0) sEnd)))
 (kBlock 4 (kLoop (kSeq (kRegC (fun k => (sV (oBin .gtr .no (xT 5) (ki 0)) k)) (xL 0) kSkip
 (kExit 4))
 (kSeq (kBlock 5 (kDraw [(.v (oFaddr 2 (xT 6)), none), (.v (oLoad (xL 0)), none), (.v (oMov (xT 3)), none), (.c (cFn 205) [(xL 0)], none), (.h (oBsl 2 1 1 [(int .i64 (.ofNat 0))] [(0, 1, (xL 0))]), none), (.h (oApp 2 1 (xL 3) (xL 0)), none), (.v (oFaddr 2 (xT 6)), none), (.h (oStore 1 (xL 0) (xL 1)), none)] 0 [none, none, none, none, none, none, none, none] [(6, 4), (6, 3)]))
 (kReg (sV (oMov (xT 5)) (sV (oBin .sub .no (xL 0) (ki 1)) (sS 5 (xL 0) sEnd)))))))))
 (kSeq (kReg (sC (cFn 213) [(xT 3), (xK (bool true))] sEnd))
 (kReg (sV (oMov (xT 7)) (sV (oLoadN 3 (xT 6)) (sH (oBsl 81 3 1 [(str []), (str []), nils] [(0, 3, (xL 0))]) (sH (oApp 81 3 (xL 2) (xL 0)) (sS 7 (xL 0) sEnd))))))))))
 (kReg (sV (oMov (xT 4)) (sV (oBin .sub .no (xL 0) (ki 1)) (sS 4 (xL 0) sEnd)))))))))
 (kSeq (kReg (sC (cFn 213) [(xT 3), (xK (bool true))] sEnd))
 (kRegC (fun k => (sC (cVal (xT 0)) [(xT 2), (xT 7)] (sV (oUn .not (xL 0)) k))) (xL 0) kRet
 kSkip)))))
 (kReg (sV (oMov (xT 2)) (sV (oBin .add .no (xL 0) (ki 1)) (sS 2 (xL 0) sEnd)))))))))
 (kReg (sC (cFn 113) [(xT 3)] (sV (oBin .eql .no (xL 0) (ki 0)) (sC (cFn 213) [(xT 3), (xL 0)] sEnd))))))
theorem t284 : FF d284 Tryz.f284 a284 [] := ff Tryz.func284 (by kernel_rfl)
def x284 : XFn := .go a284 2 pd6 []
def d285 : FD := ⟨285, 2, [4, 5, 6, 7, 2, 18, 19, 20, 10, 9, 8, 39, 40, 41, 11]⟩
def a285 : CodeF := (kSeq (kReg (sH (oBox 190 1 (xT 0)) (sS 6 (xL 0) (sS 2 (xK nils) (sS 3 (xK nils) (sS 4 (xK (bool false)) sEnd))))))
 (kSeq (kDraw [(.v (oMov (xT 1)), none), (.v (oMov (xT 1)), none), (.f (oMksl 9 1 [(str [])] (xL 1) (xL 1)), none), (.f (oAlloc 35 1 [nils]), none), (.h (oStore 1 (xL 0) (xL 1)), none), (.f (oMksl 33 1 [(int .u64 (.ofNat 0))] (xL 3) (xL 3)), none), (.v (oMov (xL 0)), none)] 3 [none, none, none, none, none, (some 3), none, none, none, none, none, none, (some 0), none, none, none, none] [])
 (kSeq (kReg (sV (oMkfn 345 [] [(xT 6), (xT 5)]) (sS 11 (xL 0) sEnd)))
 (kSeq (kSeq (kReg (sV (oLoad (xT 5)) (sV (oLenL (xL 0)) (sS 7 (xL 0) (sS 8 (ki 0) sEnd)))))
 (kBlock 0 (kLoop (kSeq (kReg (sV (oBin .lss .no (xT 8) (xT 7)) (sS 9 (xL 0) sEnd)))
 (kSeq (kCond (xT 9) kSkip
 (kExit 0))
 (kSeq (kBlock 1 (kSeq (kReg (sS 10 (xT 8) sEnd))
 (kSeq (kDraw [(.v (oLoad (xT 5)), none), (.v (oMov (xT 10)), none), (.v (oMov (xT 11)), none), (.v (oMov (xT 10)), none), (.c (cVal (xL 1)) [(xL 0)], none), (.v (oIaddr 1 (xL 4) (xL 3)), none), (.h (oStore 1 (xL 0) (xL 1)), none)] 0 [none, none, none, none, none, none, none, none, none, none, none, none, none, none, none, none, none] [(6, 2)])
 (kRegC (fun k => (sV (oBin .gtr .no (xT 10) (ki 0)) (sG (xL 0) true (sV (oLoad (xT 5))) (sG (xL 1) true (sV (oMov (xT 10))) (sG (xL 2) true (sV (oIaddr 1 (xL 1) (xL 0))) (sG (xL 3) true (sV (oLoad (xL 0))) (sG (xL 4) true (sV (oBin .eql .no (xL 0) (xK (str [])))) (sV (oPick (xL 5) (xL 0) (xK (bool false))) k)))))))) (xL 0) (kSeq (kReg (sS 2 (xK nils) (sS 3 (xK nils) (sS 4 (xK (bool false)) sEnd))))
 kRet)
 kSkip))))
 (kReg (sV (oBin .add .no (xT 8) (ki 1)) (sS 8 (xL 0) sEnd)))))))))
 (kSeq (kSeq (kReg (sV (oLenL (xT 12)) (sS 13 (xL 0) (sS 14 (ki 0) sEnd))))
 (kBlock 2 (kLoop (kSeq (kReg (sV (oBin .lss .no (xT 14) (xT 13)) (sS 15 (xL 0) sEnd)))
 (kSeq (kCond (xT 15) kSkip
 (kExit 2))
 (kSeq (kBlock 3 (kSeq (kReg (sS 16 (xT 14) sEnd))
 (kReg (sV (oLoad (xT 6)) (sC (cFn 133) [(xL 0)] (sV (oIaddr 1 (xT 12) (xT 16)) (sH (oStore 1 (xL 0) (xL 1)) sEnd)))))))
 (kReg (sV (oBin .add .no (xT 14) (ki 1)) (sS 14 (xL 0) sEnd)))))))))
 (kSeq (kDraw [(.v (oLoad (xT 5)), none), (.v (oMov (xT 12)), none), (.v (oLoad (xT 6)), none), (.c (cFn 115) [(xL 0)], none), (.v (oBin .eql .no (xL 0) (ki 0)), none), (.v (oMov (xL 4)), none), (.v (oMov (xL 4)), none), (.v (oMov (xL 2)), none)] 0 [none, none, (some 2), (some 1), (some 0), none, none, none, none, none, none, none, none, none, none, none, none] [(7, 4)])
 kRet))))))
theorem t285 : FF d285 Tryz.f285 a285 [(.t 2), (.t 3), (.t 4)] := ff Tryz.func285 (by kernel_rfl)
def x285 : XFn := .go a285 2 pd15 [(.t 2), (.t 3), (.t 4)]
def d286 : FD := ⟨286, 2, [4]⟩
def a286 : CodeF := (kSeq (kReg (sS 2 (ki 0) sEnd))
 (kSeq (kReg (sV (oNilc (xT 0)) (sV (oFaddr 2 (xL 0)) (sV (oLoad (xL 0)) (sV (oBin .mul .no (xT 1) (ki 16)) (sV (oBin .sub .no (xL 1) (xL 0)) (sV (oMm false (ki 16) [(xL 0)]) (sS 2 (xL 0) sEnd))))))))
 kRet))
theorem t286 : FF d286 Tryz.f286 a286 [(.t 2)] := ff Tryz.func286 (by kernel_rfl)
def x286 : XFn := .go a286 2 pd1 [(.t 2)]
def d287 : FD := ⟨287, 2, [4, 5, 7, 6]⟩
def a287 : CodeF := (kSeq (kReg (sS 2 (xK nils) (sS 3 (xK nils) sEnd)))
 (kSeq (kReg (sV (oNilc (xT 0)) (sV (oFaddr 0 (xL 0)) (sV (oLoad (xL 0)) (sV (oIaddr 1 (xL 0) (xT 1)) (sV (oLoad (xL 0)) (sC (cFn 109) [(xL 0)] (sC (cFn 286) [(xT 0), (xT 1)] (sC (cFn 285) [(xL 1), (xL 0)] (sV (oExt 0 (xL 0)) (sV (oExt 1 (xL 1)) (sV (oExt 2 (xL 2)) (sS 5 (xL 2) (sS 4 (xL 1) sEnd))))))))))))))
 (kSeq (kReg (sS 2 (xT 5) (sS 3 (xT 4) sEnd)))
 kRet)))
theorem t287 : FF d287 Tryz.f287 a287 [(.t 2), (.t 3)] := ff Tryz.func287 (by kernel_rfl)
def x287 : XFn := .go a287 2 pd4 [(.t 2), (.t 3)]
def d288 : FD := ⟨288, 1, [2, 3, 1, 4, 5, 7, 6, 44, 45, 46, 43, 8, 10, 11, 77, 78, 79, 76, 15, 13, 16, 14, 103, 104, 105, 102, 19, 17, 12]⟩
def a288 : CodeF := (kSeq (kReg (sH (oBox 398 4 (xT 0)) (sS 3 (xL 0) (sS 1 (xK nils) (sS 2 (xK (bool false)) sEnd)))))
 (kSeq (kReg (sV (oFaddr 0 (xT 3)) (sV (oLoad (xL 0)) (sH (oAlloc 51 1 [nils]) (sS 4 (xL 0) (sH (oStore 1 (xT 4) (xL 1)) sEnd))))))
 (kSeq (kReg (sV (oMkfn 347 [] [(xT 4)]) (sS 5 (xL 0) sEnd)))
 (kSeq (kReg (sV (oFaddr 3 (xT 3)) (sV (oLoad (xL 0)) (sC (cVal (xT 5)) [(xL 0)] (sS 7 (xL 0) sEnd)))))
 (kSeq (kReg (sV (oFaddr 3 (xT 3)) (sV (oLoad (xL 0)) (sC (cVal (xT 5)) [(xL 0)] (sS 6 (xL 0) sEnd)))))
 (kSeq (kRegC (fun k => (sV (oLenL (xT 7)) (sV (oFaddr 3 (xT 3)) (sV (oLoad (xL 0)) (sV (oBin .neq .no (xL 2) (xL 0)) (sG (xL 0) false (sV (oMov (xT 6))) (sG (xL 1) false (sV (oLenL (xL 0))) (sG (xL 2) false (sV (oFaddr 3 (xT 3))) (sG (xL 3) false (sV (oLoad (xL 0))) (sG (xL 4) false (sV (oBin .neq .no (xL 2) (xL 0))) (sV (oPick (xL 5) (xK (bool true)) (xL 0)) k))))))))))) (xL 0) (kSeq (kReg (sS 1 (xK nils) (sS 2 (xK (bool false)) sEnd)))
 kRet)
 kSkip)
 (kSeq (kReg (sS 12 (ki 0) sEnd))
 (kSeq (kSeq (kReg (sS 11 (xT 6) (sV (oLenL (xT 11)) (sS 8 (xL 0) (sS 9 (ki 0) sEnd)))))
 (kBlock 0 (kLoop (kSeq (kReg (sV (oBin .lss .no (xT 9) (xT 8)) (sS 10 (xL 0) sEnd)))
 (kSeq (kCond (xT 10) kSkip
 (kExit 0))
 (kSeq (kBlock 1 (kSeq (kReg (sV (oIaddr 1 (xT 11) (xT 9)) (sV (oLoad (xL 0)) (sS 13 (xL 0) sEnd))))
 (kSeq (kRegC (fun k => (sV (oBin .lss .no (xT 13) (ki 0)) (sG (xL 0) false (sV (oMov (xT 13))) (sG (xL 1) false (sV (oMov (xT 12))) (sG (xL 2) false (sV (oBin .sub .no (ki 1048576) (xL 0))) (sG (xL 3) false (sV (oBin .geq .no (xL 2) (xL 0))) (sV (oPick (xL 4) (xK (bool true)) (xL 0)) k))))))) (xL 0) (kSeq (kReg (sS 1 (xK nils) (sS 2 (xK (bool false)) sEnd)))
 kRet)
 kSkip)
 (kReg (sV (oMov (xT 12)) (sV (oBin .add .no (xT 13) (ki 1)) (sV (oBin .add .no (xL 1) (xL 0)) (sS 12 (xL 0) sEnd))))))))
 (kReg (sV (oBin .add .no (xT 9) (ki 1)) (sS 9 (xL 0) sEnd)))))))))
 (kSeq (kReg (sC (cVal (xT 5)) [(xT 12)] (sS 14 (xL 0) sEnd)))
 (kSeq (kRegC (fun k => (sV (oLenL (xT 14)) (sV (oBin .neq .no (xL 0) (xT 12)) (sG (xL 0) false (sV (oLoad (xT 4))) (sG (xL 1) false (sV (oLenL (xL 0))) (sG (xL 2) false (sV (oBin .gtr .no (xL 0) (ki 0))) (sV (oPick (xL 3) (xK (bool true)) (xL 0)) k))))))) (xL 0) (kSeq (kReg (sS 1 (xK nils) (sS 2 (xK (bool false)) sEnd)))
 kRet)
 kSkip)
 (kSeq (kReg (sS 29 (xK nils) sEnd))
 (kSeq (kReg (sV (oFaddr 1 (xT 3)) (sV (oLoad (xL 0)) (sS 20 (xL 0) sEnd))))
 (kSeq (kSeq (kReg (sS 18 (xT 7) (sV (oLenL (xT 18)) (sS 15 (xL 0) (sS 16 (ki 0) sEnd)))))
 (kBlock 2 (kLoop (kSeq (kReg (sV (oBin .lss .no (xT 16) (xT 15)) (sS 17 (xL 0) sEnd)))
 (kSeq (kCond (xT 17) kSkip
 (kExit 2))
 (kSeq (kBlock 3 (kSeq (kReg (sV (oIaddr 1 (xT 18) (xT 16)) (sV (oLoad (xL 0)) (sS 22 (xT 16) (sS 19 (xL 0) sEnd)))))
 (kSeq (kRegC (fun k => (sV (oBin .lss .no (xT 19) (ki 0)) (sG (xL 0) false (sV (oMov (xT 19))) (sG (xL 1) false (sV (oBin .geq .no (xL 0) (ki 16384))) (sV (oPick (xL 2) (xK (bool true)) (xL 0)) k))))) (xL 0) (kSeq (kReg (sS 1 (xK nils) (sS 2 (xK (bool false)) sEnd)))
 kRet)
 kSkip)
 (kSeq (kReg (sV (oBin .add .no (xT 20) (ki 1)) (sV (oBin .add .no (xL 0) (xT 19)) (sV (oBuild [(int .i64 (.ofNat 0)), nils] [(0, 1, (xL 0))]) (sH (oAlloc 275 2 [(int .i64 (.ofNat 0)), nils]) (sS 21 (xL 0) (sH (oStore 2 (xT 21) (xL 1)) sEnd)))))))
 (kSeq (kReg (sV (oFaddr 0 (xT 21)) (sV (oLoad (xL 0)) (sS 20 (xL 0) sEnd))))
 (kSeq (kReg (sS 28 (ki 0) sEnd))
 (kSeq (kSeq (kReg (sV (oIaddr 1 (xT 6) (xT 22)) (sV (oLoad (xL 0)) (sV (oBin .add .no (xL 0) (ki 1)) (sV (oSlc 1 (xT 14) none (some (xL 0)) none) (sS 26 (xL 0) (sV (oLenL (xT 26)) (sS 23 (xL 0) (sS 24 (ki 0) sEnd)))))))))
 (kBlock 4 (kLoop (kSeq (kReg (sV (oBin .lss .no (xT 24) (xT 23)) (sS 25 (xL 0) sEnd)))
 (kSeq (kCond (xT 25) kSkip
 (kExit 4))
 (kSeq (kBlock 5 (kSeq (kReg (sV (oIaddr 1 (xT 26) (xT 24)) (sV (oLoad (xL 0)) (sS 27 (xL 0) sEnd))))
 (kSeq (kRegC (fun k => (sV (oBin .lss .no (xT 27) (ki 0)) (sG (xL 0) false (sV (oMov (xT 27))) (sG (xL 1) false (sV (oBin .gtr .no (xL 0) (ki 1048576))) (sV (oPick (xL 2) (xK (bool true)) (xL 0)) k))))) (xL 0) (kSeq (kReg (sS 1 (xK nils) (sS 2 (xK (bool false)) sEnd)))
 kRet)
 kSkip)
 (kSeq (kReg (sV (oMov (xT 28)) (sV (oBin .add .no (xL 0) (xT 27)) (sS 28 (xL 0) sEnd))))
 (kReg (sV (oFaddr 1 (xT 21)) (sV (oLoad (xL 0)) (sH (oBsl 3 1 1 [(int .i64 (.ofNat 0))] [(0, 1, (xT 28))]) (sH (oApp 3 1 (xL 1) (xL 0)) (sV (oFaddr 1 (xT 21)) (sH (oStore 1 (xL 0) (xL 1)) sEnd)))))))))))
 (kReg (sV (oBin .add .no (xT 24) (ki 1)) (sS 24 (xL 0) sEnd)))))))))
 (kSeq (kReg (sV (oMov (xT 14)) (sV (oIaddr 1 (xT 6) (xT 22)) (sV (oLoad (xL 0)) (sV (oBin .add .no (xL 0) (ki 1)) (sV (oSlc 1 (xL 3) (some (xL 0)) none none) (sS 14 (xL 0) sEnd)))))))
 (kSeq (kReg (sV (oFaddr 1 (xT 21)) (sV (oLoad (xL 0)) (sC (cFn 127) [(xL 0)] (sV (oFaddr 1 (xT 21)) (sH (oStore 1 (xL 0) (xL 1)) sEnd))))))
 (kReg (sV (oMov (xT 29)) (sV (oLoadN 2 (xT 21)) (sH (oBsl 275 2 1 [(int .i64 (.ofNat 0)), nils] [(0, 2, (xL 0))]) (sH (oApp 275 2 (xL 2) (xL 0)) (sS 29 (xL 0) sEnd)))))))))))))))
 (kReg (sV (oBin .add .no (xT 16) (ki 1)) (sS 16 (xL 0) sEnd)))))))))
 (kSeq (kDraw [(.v (oMov (xT 29)), none), (.v (oMov (xT 20)), none), (.v (oFaddr 2 (xT 3)), none), (.v (oLoad (xL 0)), none), (.v (oBin .eql .no (xL 2) (xL 0)), none), (.v (oMov (xL 4)), none), (.v (oMov (xL 1)), none)] 0 [none, (some 1), (some 0), none, none, none, none, none, none, none, none, none, none, none, none, none, none, none, none, none, none, none, none, none, none, none, none, none, none, none] [])
 kRet))))))))))))))
theorem t288 : FF d288 Tryz.f288 a288 [(.t 1), (.t 2)] := ff Tryz.func288 (by kernel_rfl)
def x288 : XFn := .go a288 1 pd29 [(.t 1), (.t 2)]
def d289 : FD := ⟨289, 1, [2, 3, 17, 18, 5, 6, 4, 8, 7]⟩
def a289 : CodeF := (kSeq (kReg (sS 1 (xK nils) (sS 2 (ki 0) sEnd)))
 (kSeq (kRegC (fun k => (sC (cFn 348) [(xT 0)] (sV (oUn .not (xL 0)) k))) (xL 0) (kSeq (kReg (sS 1 (xK nils) (sS 2 (ki 1) sEnd)))
 kRet)
 kSkip)
 (kSeq (kReg (sV (oLenL (xT 0)) (sV (oConv .u64 (xL 0)) (sC (cFn 80) [(xK nils), (xL 0)] (sH (oAlloc 51 1 [nils]) (sS 7 (xL 0) (sH (oStore 1 (xT 7) (xL 1)) sEnd)))))))
 (kSeq (kReg (sH (oAlloc 3 1 [(int .i64 (.ofNat 0))]) (sS 5 (xL 0) (sH (oStore 1 (xT 5) (xK (int .i64 (.negSucc 0)))) sEnd))))
 (kSeq (kSeq (kReg (sC (cFn 349) [(xT 0), (ki 8)] (sS 3 (xL 0) sEnd)))
 (kBlock 0 (kRf 134254842 [4] (xT 3))))
 (kSeq (kReg (sV (oLoad (xT 7)) (sC (cFn 132) [(xL 0)] (sS 1 (xL 0) (sS 2 (ki 0) sEnd)))))
 kRet))))))
theorem t289 : FF d289 Tryz.f289 a289 [(.t 1), (.t 2)] := ff Tryz.func289 (by kernel_rfl)
def x289 : XFn := .go a289 1 pd9 [(.t 1), (.t 2)]
def r289x0 : CodeF × CodeF := ((kReg (sS 6 (xT 4) sEnd)),
 (kBlock 1 (kSeq (kReg (sV (oLoad (xT 5)) (sC (cFn 350) [(xT 6), (xL 0)] (sS 9 (xL 0) sEnd))))
 (kSeq (kReg (sV (oLenL (xT 6)) (sV (oBin .sub .no (xL 0) (ki 1)) (sV (oIaddr 2 (xT 6) (xL 0)) (sV (oFaddr 0 (xL 0)) (sV (oLoad (xL 0)) (sS 8 (xL 0) sEnd)))))))
 (kSeq (kDraw [(.v (oLoad (xT 7)), none), (.v (oMov (xT 9)), none), (.v (oLenL (xL 0)), none), (.v (oConv .u64 (xL 0)), none), (.c (cFn 80) [(xL 3), (xL 0)], none), (.v (oMov (xT 8)), none), (.v (oLoad (xT 5)), none), (.v (oBin .sub .no (xL 1) (xL 0)), none), (.v (oConv .u64 (xL 0)), none), (.c (cFn 80) [(xL 4), (xL 0)], none), (.h (oStore 1 (xT 7) (xL 0)), none)] 0 [none, none, none, none, none, none, none, none, none, none] [(4, 6)])
 (kSeq (kReg (sV (oLoad (xT 7)) (sH (oApp 5 1 (xL 0) (xT 9)) (sH (oStore 1 (xT 7) (xL 0)) sEnd))))
 (kReg (sH (oStore 1 (xT 5) (xT 8)) sEnd))))))))
theorem u289x0 : RfFact Tryz.prog d289 Tryz.f289 134254842 r289x0 := ⟨Tryz.func289, by kernel_rfl⟩
def d290 : FD := ⟨290, 1, [2, 3, 5, 6, 4, 32, 33, 34, 9, 7, 8, 10, 13, 63, 64, 65, 16, 15, 11, 14, 12, 18, 17]⟩
def a290 : CodeF := (kSeq (kReg (sH (oAlloc 403 2 [nils, nils]) (sS 1 (xL 0) (sS 2 (xK (bool false)) sEnd))))
 (kSeq (kReg (sH (oAlloc 403 2 [nils, nils]) (sS 5 (xL 0) sEnd)))
 (kSeq (kReg (sC (cFn 109) [(xT 0)] (sS 3 (xL 0) sEnd)))
 (kSeq (kReg (sC (cFn 110) [(xT 3), (ki 16384)] (sS 4 (xL 0) sEnd)))
 (kSeq (kReg (sV (oBin .add .no (xT 4) (ki 7)) (sV (oBin .quo .no (xL 0) (ki 8)) (sC (cFn 112) [(xT 3), (xL 0)] (sS 10 (xL 0) sEnd)))))
 (kSeq (kRegC (fun k => (sC (cFn 115) [(xT 3)] (sV (oBin .neq .no (xL 0) (ki 0)) k))) (xL 0) (kSeq (kReg (sV (oLoadN 2 (xT 5)) (sH (oStore 2 (xT 1) (xL 0)) (sS 2 (xK (bool false)) sEnd))))
 kRet)
 kSkip)
 (kSeq (kReg (sS 11 (ki 0) sEnd))
 (kSeq (kSeq (kReg (sS 6 (xT 4) (sS 7 (ki 0) sEnd)))
 (kBlock 0 (kLoop (kSeq (kReg (sV (oBin .lss .no (xT 7) (xT 6)) (sS 8 (xL 0) sEnd)))
 (kSeq (kCond (xT 8) kSkip
 (kExit 0))
 (kSeq (kBlock 1 (kSeq (kReg (sS 9 (xT 7) sEnd))
 (kReg (sV (oMov (xT 11)) (sV (oBin .quo .no (xT 9) (ki 8)) (sV (oIaddr 1 (xT 10) (xL 0)) (sV (oLoad (xL 0)) (sV (oBin .rem .no (xT 9) (ki 8)) (sV (oBin .shr .no (xL 1) (xL 0)) (sV (oBin .and .no (xL 0) (xK (int .u8 (.ofNat 1)))) (sV (oConv .i64 (xL 0)) (sV (oBin .add .no (xL 7) (xL 0)) (sS 11 (xL 0) sEnd)))))))))))))
 (kReg (sV (oBin .add .no (xT 7) (ki 1)) (sS 7 (xL 0) sEnd)))))))))
 (kSeq (kReg (sC (cFn 113) [(xT 3)] (sC (cFn 112) [(xT 3), (xL 0)] (sS 12 (xL 0) sEnd))))
 (kSeq (kReg (sC (cFn 111) [(xT 12), (xT 11)] (sV (oExt 0 (xL 0)) (sV (oExt 1 (xL 1)) (sV (oExt 2 (xL 2)) (sS 19 (xL 2) (sS 21 (xL 1) (sS 13 (xL 0) sEnd))))))))
 (kSeq (kRegC (fun k => (sV (oBin .neq .no (xT 13) (ki 0)) k)) (xL 0) (kSeq (kReg (sV (oLoadN 2 (xT 5)) (sH (oStore 2 (xT 1) (xL 0)) (sS 2 (xK (bool false)) sEnd))))
 kRet)
 kSkip)
 (kSeq (kReg (sS 20 (ki 0) (sS 18 (ki 0) sEnd)))
 (kSeq (kSeq (kReg (sS 14 (xT 4) (sS 15 (ki 0) sEnd)))
 (kBlock 2 (kLoop (kSeq (kReg (sV (oBin .lss .no (xT 15) (xT 14)) (sS 16 (xL 0) sEnd)))
 (kSeq (kCond (xT 16) kSkip
 (kExit 2))
 (kSeq (kBlock 3 (kSeq (kReg (sS 17 (xT 15) sEnd))
 (kSeq (kRegC (fun k => (sV (oBin .quo .no (xT 17) (ki 8)) (sV (oIaddr 1 (xT 10) (xL 0)) (sV (oLoad (xL 0)) (sV (oBin .rem .no (xT 17) (ki 8)) (sV (oBin .shr .no (xL 1) (xL 0)) (sV (oBin .and .no (xL 0) (xK (int .u8 (.ofNat 1)))) (sV (oBin .eql .no (xL 0) (xK (int .u8 (.ofNat 1)))) k)))))))) (xL 0) (kSeq (kRegC (fun k => (sV (oIaddr 1 (xT 19) (xT 18)) (sV (oLoad (xL 0)) (sV (oBin .lss .no (xL 0) (ki 0)) (sG (xL 0) false (sV (oMov (xT 19))) (sG (xL 1) false (sV (oMov (xT 18))) (sG (xL 2) false (sV (oIaddr 1 (xL 1) (xL 0))) (sG (xL 3) false (sV (oLoad (xL 0))) (sG (xL 4) false (sV (oBin .geq .no (xL 0) (ki 64))) (sV (oPick (xL 5) (xK (bool true)) (xL 0)) k)))))))))) (xL 0) (kSeq (kReg (sV (oLoadN 2 (xT 5)) (sH (oStore 2 (xT 1) (xL 0)) (sS 2 (xK (bool false)) sEnd))))
 kRet)
 kSkip)
 (kSeq (kReg (sV (oMov (xT 20)) (sV (oIaddr 1 (xT 19) (xT 18)) (sV (oLoad (xL 0)) (sV (oBin .add .no (xL 0) (ki 1)) (sV (oBin .add .no (xL 3) (xL 0)) (sS 20 (xL 0) sEnd)))))))
 (kReg (sV (oMov (xT 18)) (sV (oBin .add .no (xL 0) (ki 1)) (sS 18 (xL 0) sEnd))))))
 kSkip)
 (kReg (sV (oFaddr 0 (xT 5)) (sV (oLoad (xL 0)) (sH (oBsl 3 1 1 [(int .i64 (.ofNat 0))] [(0, 1, (xT 20))]) (sH (oApp 3 1 (xL 1) (xL 0)) (sV (oFaddr 0 (xT 5)) (sH (oStore 1 (xL 0) (xL 1)) sEnd))))))))))
 (kReg (sV (oBin .add .no (xT 15) (ki 1)) (sS 15 (xL 0) sEnd)))))))))
 (kSeq (kReg (sV (oSlc 1 (xT 12) (some (xT 21)) none none) (sC (cFn 111) [(xL 0), (xT 20)] (sV (oExt 0 (xL 0)) (sV (oExt 1 (xL 1)) (sV (oExt 2 (xL 2)) (sS 23 (xL 2) (sS 22 (xL 1) (sS 13 (xL 0) sEnd)))))))))
 (kSeq (kRegC (fun k => (sV (oBin .neq .no (xT 13) (ki 0)) (sG (xL 0) false (sV (oMov (xT 21))) (sG (xL 1) false (sV (oMov (xT 22))) (sG (xL 2) false (sV (oBin .add .no (xL 1) (xL 0))) (sG (xL 3) false (sV (oMov (xT 12))) (sG (xL 4) false (sV (oLenL (xL 0))) (sG (xL 5) false (sV (oBin .neq .no (xL 2) (xL 0))) (sV (oPick (xL 6) (xK (bool true)) (xL 0)) k))))))))) (xL 0) (kSeq (kReg (sV (oLoadN 2 (xT 5)) (sH (oStore 2 (xT 1) (xL 0)) (sS 2 (xK (bool false)) sEnd))))
 kRet)
 kSkip)
 (kSeq (kReg (sV (oFaddr 1 (xT 5)) (sH (oStore 1 (xL 0) (xT 23)) sEnd)))
 (kSeq (kReg (sV (oLoadN 2 (xT 5)) (sH (oStore 2 (xT 1) (xL 0)) (sS 2 (xK (bool true)) sEnd))))
 kRet)))))))))))))))))
theorem t290 : FF d290 Tryz.f290 a290 [(.cell 1 (some 2)), (.t 2)] := ff Tryz.func290 (by kernel_rfl)
def x290 : XFn := .go a290 1 pd23 [(.cell 1 (some 2)), (.t 2)]
def d291 : FD := ⟨291, 2, [4]⟩
def a291 : CodeF := (kSeq (kReg (sS 2 (xK (bool false)) sEnd))
 (kSeq (kReg (sC (cFn 351) [(xT 0), (xT 1)] (sV (oBin .geq .no (xL 0) (ki 0)) (sS 2 (xL 0) sEnd))))
 kRet))
theorem t291 : FF d291 Tryz.f291 a291 [(.t 2)] := ff Tryz.func291 (by kernel_rfl)
def x291 : XFn := .go a291 2 pd1 [(.t 2)]
def d292 : FD := ⟨292, 2, [3]⟩
def a292 : CodeF := (kSeq (kReg (sS 2 (xK (bool false)) sEnd))
 (kSeq (kReg (sV (oBin .lss .no (xT 0) (ki 0)) (sG (xL 0) false (sV (oMov (xT 0))) (sG (xL 1) false (sV (oLoad (xT 1))) (sG (xL 2) false (sV (oNilc (xL 0))) (sG (xL 3) false (sV (oFaddr 2 (xL 0))) (sG (xL 4) false (sV (oLoad (xL 0))) (sG (xL 5) false (sV (oLenL (xL 0))) (sG (xL 6) false (sV (oBin .geq .no (xL 5) (xL 0))) (sV (oPick (xL 7) (xK (bool true)) (xL 0)) (sS 2 (xL 0) sEnd)))))))))))
 kRet))
theorem t292 : FF d292 Tryz.f292 a292 [(.t 2)] := ff Tryz.func292 (by kernel_rfl)
def x292 : XFn := .go a292 2 pd1 [(.t 2)]
def d293 : FD := ⟨293, 1, [2]⟩
def a293 : CodeF := (kSeq (kReg (sS 1 (ki 0) sEnd))
 (kSeq (kRegC (fun k => (sV (oBin .eql .ptr (xT 0) (xK nilptr)) k)) (xL 0) (kSeq (kReg (sS 1 (ki 0) sEnd))
 kRet)
 kSkip)
 (kSeq (kReg (sV (oNilc (xT 0)) (sV (oFaddr 0 (xL 0)) (sC (cFn 352) [(xL 0)] (sS 1 (xL 0) sEnd)))))
 kRet)))
theorem t293 : FF d293 Tryz.f293 a293 [(.t 1)] := ff Tryz.func293 (by kernel_rfl)
def x293 : XFn := .go a293 1 pd1 [(.t 1)]
def d294 : FD := ⟨294, 2, [4, 11, 12, 13, 10, 7, 5]⟩
def a294 : CodeF := (kSeq (kReg (sS 2 (xK nils) sEnd))
 (kSeq (kReg (sS 8 (xK nils) sEnd))
 (kSeq (kSeq (kReg (sC (cFn 353) [(xT 0), (xT 1)] (sS 6 (xL 0) (sV (oLenL (xT 6)) (sS 3 (xL 0) (sS 4 (ki 0) sEnd))))))
 (kBlock 0 (kLoop (kSeq (kReg (sV (oBin .lss .no (xT 4) (xT 3)) (sS 5 (xL 0) sEnd)))
 (kSeq (kCond (xT 5) kSkip
 (kExit 0))
 (kSeq (kBlock 1 (kSeq (kReg (sV (oIaddr 1 (xT 6) (xT 4)) (sV (oLoad (xL 0)) (sS 7 (xL 0) sEnd))))
 (kReg (sV (oMov (xT 8)) (sV (oNilc (xT 0)) (sV (oFaddr 2 (xL 0)) (sV (oLoad (xL 0)) (sV (oIaddr 1 (xL 0) (xT 7)) (sV (oLoad (xL 0)) (sH (oBsl 9 1 1 [(str [])] [(0, 1, (xL 0))]) (sH (oApp 9 1 (xL 6) (xL 0)) (sS 8 (xL 0) sEnd))))))))))))
 (kReg (sV (oBin .add .no (xT 4) (ki 1)) (sS 4 (xL 0) sEnd)))))))))
 (kSeq (kReg (sS 2 (xT 8) sEnd))
 kRet))))
theorem t294 : FF d294 Tryz.f294 a294 [(.t 2)] := ff Tryz.func294 (by kernel_rfl)
def x294 : XFn := .go a294 2 pd7 [(.t 2)]
def d299 : FD := ⟨299, 3, [4, 5]⟩
def a299 : CodeF := (kSeq (kReg (sS 3 (ki 0) sEnd))
 (kBlock 0 (kLoop (kSeq (kRegC (fun k => (sV (oLoad (xT 1)) (sV (oLenL (xL 0)) (sV (oBin .lss .no (xT 3) (xL 0)) k)))) (xL 0) kSkip
 (kExit 0))
 (kSeq (kBlock 1 (kSeq (kDraw [(.v (oLoad (xT 2)), none), (.v (oLoad (xT 1)), none), (.v (oMov (xT 3)), none), (.v (oSlc 1 (xL 1) (some (xL 0)) none none), none), (.v (oLenL (xL 0)), none), (.v (oMm false (xL 4) [(xL 0)]), none), (.v (oMov (xL 0)), none)] 0 [none, none, none, none, (some 0)] [])
 (kRegC (fun k => (sV (oLoad (xT 1)) (sV (oBin .add .no (xT 3) (xT 4)) (sV (oBin .add .no (xT 3) (xT 4)) (sV (oSlc 1 (xL 2) (some (xT 3)) (some (xL 1)) (some (xL 0))) (sC (cVal (xT 0)) [(xL 0)] (sV (oUn .not (xL 0)) k))))))) (xL 0) kRet
 kSkip)))
 (kReg (sV (oMov (xT 3)) (sV (oLoad (xT 2)) (sV (oBin .add .no (xL 1) (xL 0)) (sS 3 (xL 0) sEnd))))))))))
theorem t299 : FF d299 Tryz.f299 a299 [] := ff Tryz.func299 (by kernel_rfl)
def x299 : XFn := .go a299 3 pd2 []
def d300 : FD := ⟨300, 3, [6, 8, 7]⟩
def a300 : CodeF := (kSeq (kReg (sS 3 (xK nils) sEnd))
 (kSeq (kReg (sC (cFn 116) [(xT 0)] (sS 5 (xL 0) sEnd)))
 (kSeq (kReg (sC (cVal (xT 2)) [(xT 1)] (sS 4 (xL 0) sEnd)))
 (kSeq (kBlock 0 (kLoop (kSeq (kRegC (fun k => (sV (oBin .gtr .no (xT 4) (xK (int .u64 (.ofNat 127)))) k)) (xL 0) kSkip
 (kExit 0))
 (kSeq (kBlock 1 (kReg (sV (oMov (xT 5)) (sV (oConv .u8 (xT 4)) (sV (oBin .or .no (xL 0) (xK (int .u8 (.ofNat 128)))) (sH (oBsl 5 1 1 [(int .u8 (.ofNat 0))] [(0, 1, (xL 0))]) (sH (oApp 5 1 (xL 3) (xL 0)) (sS 5 (xL 0) sEnd))))))))
 (kReg (sV (oMov (xT 4)) (sV (oBin .shr .no (xL 0) (xK (int .u64 (.ofNat 7)))) (sS 4 (xL 0) sEnd))))))))
 (kSeq (kReg (sV (oConv .u8 (xT 4)) (sH (oBsl 5 1 1 [(int .u8 (.ofNat 0))] [(0, 1, (xL 0))]) (sH (oApp 5 1 (xT 5) (xL 0)) (sC (cFn 132) [(xL 0)] (sS 3 (xL 0) sEnd))))))
 kRet)))))
theorem t300 : FF d300 Tryz.f300 a300 [(.t 3)] := ff Tryz.func300 (by kernel_rfl)
def x300 : XFn := .go a300 3 pd3 [(.t 3)]
def d301 : FD := ⟨301, 1, [2]⟩
def a301 : CodeF := (kSeq (kReg (sS 1 (xK (int .u64 (.ofNat 0))) sEnd))
 (kSeq (kReg (sV (oBin .shl .no (xT 0) (xK (int .u64 (.ofNat 1)))) (sV (oConv .u64 (xL 0)) (sV (oBin .shr .no (xT 0) (xK (int .u64 (.ofNat 63)))) (sV (oConv .u64 (xL 0)) (sV (oBin .xor .no (xL 2) (xL 0)) (sS 1 (xL 0) sEnd)))))))
 kRet))
theorem t301 : FF d301 Tryz.f301 a301 [(.t 1)] := ff Tryz.func301 (by kernel_rfl)
def x301 : XFn := .go a301 1 pd1 [(.t 1)]
def d302 : FD := ⟨302, 1, [2, 3, 4, 5, 18, 19, 20, 17, 7, 63, 64, 65, 62, 9]⟩
def a302 : CodeF := (kSeq (kReg (sS 1 (xK nils) (sS 2 (xK (bool false)) sEnd)))
 (kSeq (kReg (sH (oAlloc 51 1 [nils]) (sS 3 (xL 0) sEnd)))
 (kSeq (kReg (sV (oMkfn 355 [] [(xT 3)]) (sS 4 (xL 0) sEnd)))
 (kSeq (kReg (sV (oLenL (xT 0)) (sV (oConv .u64 (xL 0)) (sC (cFn 80) [(xK nils), (xL 0)] (sC (cVal (xT 4)) [(xL 0)] sEnd)))))
 (kSeq (kSeq (kReg (sS 8 (xT 0) (sV (oLenL (xT 8)) (sS 5 (xL 0) (sS 6 (ki 0) sEnd)))))
 (kBlock 0 (kLoop (kSeq (kReg (sV (oBin .lss .no (xT 6) (xT 5)) (sS 7 (xL 0) sEnd)))
 (kSeq (kCond (xT 7) kSkip
 (kExit 0))
 (kSeq (kBlock 1 (kSeq (kReg (sV (oIaddr 3 (xT 8) (xT 6)) (sV (oLoadN 3 (xL 0)) (sH (oAlloc 81 3 [(str []), (str []), nils]) (sS 9 (xL 0) (sH (oStore 3 (xT 9) (xL 1)) sEnd))))))
 (kSeq (kRegC (fun k => (sV (oLenL (xT 0)) (sV (oBin .gtr .no (xL 0) (ki 64)) (sG (xL 0) false (sV (oFaddr 0 (xT 9))) (sG (xL 1) false (sV (oLoad (xL 0))) (sG (xL 2) false (sV (oLenS (xL 0))) (sG (xL 3) false (sV (oBin .gtr .no (xL 0) (ki 24))) (sV (oPick (xL 4) (xK (bool true)) (xL 0)) (sG (xL 0) false (sV (oFaddr 1 (xT 9))) (sG (xL 1) false (sV (oLoad (xL 0))) (sG (xL 2) false (sV (oLenS (xL 0))) (sG (xL 3) false (sV (oBin .gtr .no (xL 0) (ki 4096))) (sV (oPick (xL 4) (xK (bool true)) (xL 0)) (sG (xL 0) false (sV (oFaddr 2 (xT 9))) (sG (xL 1) false (sV (oLoad (xL 0))) (sG (xL 2) false (sV (oLenL (xL 0))) (sG (xL 3) false (sV (oBin .gtr .no (xL 0) (ki 4))) (sV (oPick (xL 4) (xK (bool true)) (xL 0)) k)))))))))))))))))) (xL 0) (kSeq (kReg (sS 1 (xK nils) (sS 2 (xK (bool false)) sEnd)))
 kRet)
 kSkip)
 (kSeq (kReg (sV (oFaddr 0 (xT 9)) (sV (oLoad (xL 0)) (sC (cFn 170) [(xK nils), (xL 0)] (sC (cVal (xT 4)) [(xL 0)] sEnd)))))
 (kSeq (kReg (sV (oFaddr 1 (xT 9)) (sV (oLoad (xL 0)) (sC (cFn 170) [(xK nils), (xL 0)] (sC (cVal (xT 4)) [(xL 0)] sEnd)))))
 (kSeq (kReg (sV (oFaddr 2 (xT 9)) (sV (oLoad (xL 0)) (sV (oLenL (xL 0)) (sV (oConv .u64 (xL 0)) (sC (cFn 80) [(xK nils), (xL 0)] (sC (cVal (xT 4)) [(xL 0)] sEnd)))))))
 (kSeq (kReg (sV (oFaddr 2 (xT 9)) (sV (oLoad (xL 0)) (sS 13 (xL 0) (sV (oLenL (xT 13)) (sS 10 (xL 0) (sS 11 (ki 0) sEnd)))))))
 (kBlock 2 (kLoop (kSeq (kReg (sV (oBin .lss .no (xT 11) (xT 10)) (sS 12 (xL 0) sEnd)))
 (kSeq (kCond (xT 12) kSkip
 (kExit 2))
 (kSeq (kBlock 3 (kSeq (kReg (sV (oIaddr 1 (xT 13) (xT 11)) (sV (oLoad (xL 0)) (sS 14 (xL 0) sEnd))))
 (kReg (sC (cFn 230) [(xK nils), (xT 14)] (sC (cVal (xT 4)) [(xL 0)] sEnd)))))
 (kReg (sV (oBin .add .no (xT 11) (ki 1)) (sS 11 (xL 0) sEnd)))))))))))))))
 (kReg (sV (oBin .add .no (xT 6) (ki 1)) (sS 6 (xL 0) sEnd)))))))))
 (kSeq (kReg (sV (oLoad (xT 3)) (sS 1 (xL 0) (sS 2 (xK (bool true)) sEnd))))
 kRet))))))
theorem t302 : FF d302 Tryz.f302 a302 [(.t 1), (.t 2)] := ff Tryz.func302 (by kernel_rfl)
def x302 : XFn := .go a302 1 pd14 [(.t 1), (.t 2)]
def d303 : FD := ⟨303, 2, [4, 5, 27, 28, 29, 26, 7, 6, 9, 10, 12, 13, 11, 102, 103, 104, 101, 15, 8]⟩
def a303 : CodeF := (kSeq (kReg (sS 2 (xK nils) (sS 3 (ki 0) sEnd)))
 (kSeq (kRegC (fun k => (sV (oLenL (xT 0)) (sV (oBin .gtr .no (xL 0) (ki 1048576)) (sG (xL 0) false (sV (oMov (xT 0))) (sG (xL 1) false (sV (oLenL (xL 0))) (sG (xL 2) false (sV (oMov (xT 1))) (sG (xL 3) false (sV (oLenL (xL 0))) (sG (xL 4) false (sV (oBin .neq .no (xL 2) (xL 0))) (sV (oPick (xL 5) (xK (bool true)) (xL 0)) k))))))))) (xL 0) (kSeq (kReg (sS 2 (xK nils) (sS 3 (ki 1) sEnd)))
 kRet)
 kSkip)
 (kSeq (kSeq (kReg (sS 7 (xT 0) (sV (oLenL (xT 7)) (sS 4 (xL 0) (sS 5 (ki 0) sEnd)))))
 (kBlock 0 (kLoop (kSeq (kReg (sV (oBin .lss .no (xT 5) (xT 4)) (sS 6 (xL 0) sEnd)))
 (kSeq (kCond (xT 6) kSkip
 (kExit 0))
 (kSeq (kBlock 1 (kSeq (kReg (sV (oIaddr 1 (xT 7) (xT 5)) (sV (oLoad (xL 0)) (sS 9 (xT 5) (sS 8 (xL 0) sEnd)))))
 (kRegC (fun k => (sV (oLenS (xT 8)) (sV (oBin .gtr .no (xL 0) (ki 4096)) (sG (xL 0) false (sV (oMov (xT 9))) (sG (xL 1) false (sV (oBin .gtr .no (xL 0) (ki 0))) (sG (xL 2) false (sV (oMov (xL 0))) (sG (xL 0) true (sV (oMov (xT 0))) (sG (xL 1) true (sV (oMov (xT 9))) (sG (xL 2) true (sV (oBin .sub .no (xL 0) (ki 1))) (sG (xL 3) true (sV (oIaddr 1 (xL 2) (xL 0))) (sG (xL 4) true (sV (oLoad (xL 0))) (sG (xL 5) true (sV (oMov (xT 8))) (sG (xL 6) true (sV (oBin .geq .no (xL 1) (xL 0))) (sG (xL 10) false (sV (oPick (xL 7) (xL 0) (xK (bool false)))) (sV (oPick (xL 11) (xK (bool true)) (xL 0)) k))))))))))))))) (xL 0) (kSeq (kReg (sS 2 (xK nils) (sS 3 (ki 1) sEnd)))
 kRet)
 kSkip)))
 (kReg (sV (oBin .add .no (xT 5) (ki 1)) (sS 5 (xL 0) sEnd)))))))))
 (kSeq (kReg (sV (oLenL (xT 0)) (sV (oConv .u64 (xL 0)) (sC (cFn 80) [(xK nils), (xL 0)] (sS 20 (xL 0) sEnd)))))
 (kSeq (kSeq (kReg (sS 10 (ki 0) sEnd))
 (kBlock 2 (kLoop (kSeq (kRegC (fun k => (sV (oLenL (xT 0)) (sV (oBin .lss .no (xT 10) (xL 0)) k))) (xL 0) kSkip
 (kExit 2))
 (kSeq (kBlock 3 (kSeq (kReg (sV (oBin .add .no (xT 10) (ki 16)) (sV (oLenL (xT 0)) (sV (oMm false (xL 1) [(xL 0)]) (sS 11 (xL 0) sEnd)))))
 (kSeq (kReg (sV (oIaddr 1 (xT 0) (xT 10)) (sV (oLoad (xL 0)) (sC (cFn 170) [(xK nils), (xL 0)] (sS 14 (xL 0) sEnd)))))
 (kSeq (kSeq (kReg (sV (oBin .add .no (xT 10) (ki 1)) (sS 12 (xL 0) sEnd)))
 (kBlock 4 (kLoop (kSeq (kRegC (fun k => (sV (oBin .lss .no (xT 12) (xT 11)) k)) (xL 0) kSkip
 (kExit 4))
 (kSeq (kBlock 5 (kSeq (kDraw [(.v (oMov (xT 0)), none), (.v (oMov (xT 12)), none), (.v (oBin .sub .no (xL 0) (ki 1)), none), (.v (oIaddr 1 (xL 2) (xL 0)), none), (.v (oLoad (xL 0)), none), (.v (oMov (xT 0)), none), (.v (oMov (xT 12)), none), (.v (oIaddr 1 (xL 1) (xL 0)), none), (.v (oLoad (xL 0)), none), (.c (cFn 346) [(xL 4), (xL 0)], none), (.v (oMov (xL 0)), none)] 0 [none, none, none, none, none, none, none, none, none, none, none, none, none, (some 0), none, none, none, none, none, none, none] [])
 (kDraw [(.v (oMov (xT 14)), none), (.v (oMov (xT 13)), none), (.v (oConv .u64 (xL 0)), none), (.c (cFn 80) [(xL 2), (xL 0)], none), (.v (oMov (xT 0)), none), (.v (oMov (xT 12)), none), (.v (oIaddr 1 (xL 1) (xL 0)), none), (.v (oLoad (xL 0)), none), (.v (oMov (xT 13)), none), (.v (oSlcs (xL 1) (some (xL 0)) none), none), (.c (cFn 170) [(xL 6), (xL 0)], none), (.v (oMov (xL 0)), none)] 0 [none, none, none, none, none, none, none, none, none, none, none, none, none, none, (some 0), none, none, none, none, none, none] [(4, 8)])))
 (kReg (sV (oMov (xT 12)) (sV (oBin .add .no (xL 0) (ki 1)) (sS 12 (xL 0) sEnd)))))))))
 (kSeq (kSeq (kReg (sV (oSlc 1 (xT 1) (some (xT 10)) (some (xT 11)) none) (sS 18 (xL 0) (sV (oLenL (xT 18)) (sS 15 (xL 0) (sS 16 (ki 0) sEnd))))))
 (kBlock 6 (kLoop (kSeq (kReg (sV (oBin .lss .no (xT 16) (xT 15)) (sS 17 (xL 0) sEnd)))
 (kSeq (kCond (xT 17) kSkip
 (kExit 6))
 (kSeq (kBlock 7 (kSeq (kReg (sV (oIaddr 1 (xT 18) (xT 16)) (sV (oLoad (xL 0)) (sS 19 (xL 0) sEnd))))
 (kReg (sV (oMov (xT 14)) (sC (cFn 80) [(xL 0), (xT 19)] (sS 14 (xL 0) sEnd))))))
 (kReg (sV (oBin .add .no (xT 16) (ki 1)) (sS 16 (xL 0) sEnd)))))))))
 (kReg (sV (oMov (xT 20)) (sH (oApp 5 1 (xL 0) (xT 14)) (sS 20 (xL 0) sEnd)))))))))
 (kReg (sV (oMov (xT 10)) (sV (oBin .add .no (xL 0) (ki 16)) (sS 10 (xL 0) sEnd)))))))))
 (kSeq (kReg (sC (cFn 132) [(xT 20)] (sS 2 (xL 0) (sS 3 (ki 0) sEnd))))
 kRet))))))
theorem t303 : FF d303 Tryz.f303 a303 [(.t 2), (.t 3)] := ff Tryz.func303 (by kernel_rfl)
def x303 : XFn := .go a303 2 pd19 [(.t 2), (.t 3)]
def d304 : FD := ⟨304, 1, [2, 3, 12, 13, 14, 11, 6, 4]⟩
def a304 : CodeF := (kSeq (kReg (sS 1 (xK nils) (sS 2 (xK (bool false)) sEnd)))
 (kSeq (kReg (sV (oLenL (xT 0)) (sV (oMm false (xL 0) [(ki 16384)]) (sH (oMksl 35 1 [nils] (ki 0) (xL 0)) (sS 8 (xL 0) sEnd)))))
 (kSeq (kSeq (kReg (sS 6 (xT 0) (sV (oLenL (xT 6)) (sS 3 (xL 0) (sS 4 (ki 0) sEnd)))))
 (kBlock 0 (kLoop (kSeq (kReg (sV (oBin .lss .no (xT 4) (xT 3)) (sS 5 (xL 0) sEnd)))
 (kSeq (kCond (xT 5) kSkip
 (kExit 0))
 (kSeq (kBlock 1 (kSeq (kReg (sV (oIaddr 1 (xT 6) (xT 4)) (sV (oLoad (xL 0)) (sS 7 (xL 0) sEnd))))
 (kSeq (kRegC (fun k => (sV (oLenL (xT 0)) (sV (oBin .gtr .no (xL 0) (ki 16384)) (sG (xL 0) false (sV (oMov (xT 7))) (sG (xL 1) false (sV (oLenL (xL 0))) (sG (xL 2) false (sV (oBin .gtr .no (xL 0) (ki 64))) (sV (oPick (xL 3) (xK (bool true)) (xL 0)) k))))))) (xL 0) (kSeq (kReg (sS 1 (xK nils) (sS 2 (xK (bool false)) sEnd)))
 kRet)
 kSkip)
 (kSeq (kReg (sV (oMov (xT 7)) (sC (cFn 356) [(xL 0)] (sS 7 (xL 0) sEnd))))
 (kSeq (kReg (sC (cFn 29) [(xT 7)] sEnd))
 (kReg (sV (oMov (xT 8)) (sH (oBsl 35 1 1 [nils] [(0, 1, (xT 7))]) (sH (oApp 35 1 (xL 1) (xL 0)) (sS 8 (xL 0) sEnd))))))))))
 (kReg (sV (oBin .add .no (xT 4) (ki 1)) (sS 4 (xL 0) sEnd)))))))))
 (kSeq (kReg (sS 1 (xT 8) (sS 2 (xK (bool true)) sEnd)))
 kRet))))
theorem t304 : FF d304 Tryz.f304 a304 [(.t 1), (.t 2)] := ff Tryz.func304 (by kernel_rfl)
def x304 : XFn := .go a304 1 pd8 [(.t 1), (.t 2)]
def d305 : FD := ⟨305, 2, [4, 5, 6, 8, 7, 9]⟩
def a305 : CodeF := (kSeq (kReg (sS 2 (ki 0) (sS 3 (xK (bool false)) sEnd)))
 (kSeq (kReg (sV (oLenL (xT 0)) (sS 4 (xL 0) sEnd)))
 (kSeq (kReg (sS 6 (ki 0) (sS 5 (xT 4) sEnd)))
 (kSeq (kBlock 0 (kLoop (kSeq (kRegC (fun k => (sV (oBin .lss .no (xT 6) (xT 5)) k)) (xL 0) kSkip
 (kExit 0))
 (kBlock 1 (kSeq (kReg (sV (oBin .add .no (xT 6) (xT 5)) (sV (oConv .u64 (xL 0)) (sV (oBin .shr .no (xL 0) (xK (int .u64 (.ofNat 1)))) (sV (oConv .i64 (xL 0)) (sS 7 (xL 0) sEnd))))))
 (kRegC (fun k => (sV (oIaddr 1 (xT 0) (xT 7)) (sV (oLoad (xL 0)) (sC (cFn 158) [(xL 0), (xT 1)] k)))) (xL 0) (kReg (sV (oBin .add .no (xT 7) (ki 1)) (sS 6 (xL 0) sEnd)))
 (kReg (sS 5 (xT 7) sEnd))))))))
 (kSeq (kReg (sV (oBin .lss .no (xT 6) (xT 4)) (sG (xL 0) true (sV (oMov (xT 0))) (sG (xL 1) true (sV (oMov (xT 6))) (sG (xL 2) true (sV (oIaddr 1 (xL 1) (xL 0))) (sG (xL 3) true (sV (oLoad (xL 0))) (sG (xL 4) true (sV (oMov (xT 1))) (sG (xL 5) true (sV (oBin .eql .no (xL 1) (xL 0))) (sG (xL 6) true (sV (oMov (xL 0))) (sG (xL 0) false (sV (oMov (xT 0))) (sG (xL 1) false (sV (oMov (xT 6))) (sG (xL 2) false (sV (oIaddr 1 (xL 1) (xL 0))) (sG (xL 3) false (sV (oLoad (xL 0))) (sG (xL 4) false (sC (cFn 357) [(xL 0)]) (sG (xL 5) false (sV (oMov (xL 0))) (sG (xL 0) true (sV (oMov (xT 1))) (sG (xL 1) true (sC (cFn 357) [(xL 0)]) (sG (xL 8) false (sV (oPick (xL 2) (xL 0) (xK (bool false)))) (sG (xL 16) true (sV (oPick (xL 9) (xK (bool true)) (xL 0))) (sV (oPick (xL 17) (xL 0) (xK (bool false))) (sS 2 (xT 6) (sS 3 (xL 0) sEnd))))))))))))))))))))))
 kRet)))))
theorem t305 : FF d305 Tryz.f305 a305 [(.t 2), (.t 3)] := ff Tryz.func305 (by kernel_rfl)
def x305 : XFn := .go a305 2 pd6 [(.t 2), (.t 3)]
def d306 : FD := ⟨306, 1, [2, 19, 20, 21, 18, 8, 7, 4, 5, 6, 3]⟩
def a306 : CodeF := (kSeq (kReg (sS 1 (xK nils) sEnd))
 (kSeq (kReg (sV (oLenL (xT 0)) (sV (oConv .u64 (xL 0)) (sC (cFn 80) [(xK nils), (xL 0)] (sS 11 (xL 0) sEnd)))))
 (kSeq (kReg (sV (oLenL (xT 0)) (sV (oBin .add .no (xL 0) (ki 7)) (sV (oBin .quo .no (xL 0) (ki 8)) (sH (oMksl 5 1 [(int .u8 (.ofNat 0))] (xL 0) (xL 0)) (sS 8 (xL 0) sEnd))))))
 (kSeq (kReg (sS 9 (xK nils) (sS 10 (xK nils) sEnd)))
 (kSeq (kSeq (kReg (sS 5 (xT 0) (sV (oLenL (xT 5)) (sS 2 (xL 0) (sS 3 (ki 0) sEnd)))))
 (kBlock 0 (kLoop (kSeq (kReg (sV (oBin .lss .no (xT 3) (xT 2)) (sS 4 (xL 0) sEnd)))
 (kSeq (kCond (xT 4) kSkip
 (kExit 0))
 (kSeq (kBlock 1 (kSeq (kReg (sV (oIaddr 1 (xT 5) (xT 3)) (sV (oLoad (xL 0)) (sS 7 (xT 3) (sS 6 (xL 0) sEnd)))))
 (kRegC (fun k => (sV (oLenL (xT 6)) (sV (oBin .gtr .no (xL 0) (ki 0)) k))) (xL 0) (kSeq (kDraw [(.v (oMov (xT 8)), none), (.v (oMov (xT 7)), none), (.v (oBin .quo .no (xL 0) (ki 8)), none), (.v (oIaddr 1 (xL 2) (xL 0)), none), (.v (oLoad (xL 0)), none), (.v (oMov (xT 7)), none), (.v (oBin .rem .no (xL 0) (ki 8)), none), (.v (oBin .shl .no (xK (int .u8 (.ofNat 1))) (xL 0)), none), (.v (oBin .or .no (xL 3) (xL 0)), none), (.v (oIaddr 1 (xL 8) (xL 6)), none), (.h (oStore 1 (xL 0) (xL 1)), none)] 0 [none, none, none, none, none, none, none, none, none, none, none, none] [])
 (kSeq (kReg (sV (oMov (xT 9)) (sV (oLenL (xT 6)) (sV (oBin .sub .no (xL 0) (ki 1)) (sH (oBsl 2 1 1 [(int .i64 (.ofNat 0))] [(0, 1, (xL 0))]) (sH (oApp 2 1 (xL 3) (xL 0)) (sS 9 (xL 0) sEnd)))))))
 (kReg (sV (oMov (xT 10)) (sH (oApp 2 1 (xL 0) (xT 6)) (sS 10 (xL 0) sEnd))))))
 kSkip)))
 (kReg (sV (oBin .add .no (xT 3) (ki 1)) (sS 3 (xL 0) sEnd)))))))))
 (kSeq (kReg (sV (oMov (xT 11)) (sH (oApp 5 1 (xL 0) (xT 8)) (sS 11 (xL 0) sEnd))))
 (kSeq (kReg (sV (oMov (xT 11)) (sC (cFn 121) [(xT 9)] (sH (oApp 5 1 (xL 1) (xL 0)) (sS 11 (xL 0) sEnd)))))
 (kSeq (kReg (sC (cFn 121) [(xT 10)] (sH (oApp 5 1 (xT 11) (xL 0)) (sS 1 (xL 0) sEnd))))
 kRet))))))))
theorem t306 : FF d306 Tryz.f306 a306 [(.t 1)] := ff Tryz.func306 (by kernel_rfl)
def x306 : XFn := .go a306 1 pd11 [(.t 1)]
def d310 : FD := ⟨310, 2, [4]⟩
def a310 : CodeF := (kSeq (kReg (sS 2 (ki 0) sEnd))
 (kSeq (kReg (sC (cFn 361) [(xT 0), (xT 1)] (sS 2 (xL 0) sEnd)))
 kRet))
theorem t310 : FF d310 Tryz.f310 a310 [(.t 2)] := ff Tryz.func310 (by kernel_rfl)
def x310 : XFn := .go a310 2 pd1 [(.t 2)]
def d317 : FD := ⟨317, 2, [4, 5, 7, 6]⟩
def a317 : CodeF := (kSeq (kReg (sS 2 (xK (str [])) sEnd))
 (kSeq (kReg (sS 3 (xK (str [])) sEnd))
 (kSeq (kRegC (fun k => (sV (oBin .eql .ptr (xT 0) (xK nilptr)) (sG (xL 0) false (sV (oMov (xT 0))) (sG (xL 1) false (sV (oNilc (xL 0))) (sG (xL 2) false (sV (oFaddr 2 (xL 0))) (sG (xL 3) false (sV (oLoad (xL 0))) (sG (xL 4) false (sV (oBin .neq .no (xL 0) (ki 0))) (sV (oPick (xL 5) (xK (bool true)) (xL 0)) k)))))))) (xL 0) (kSeq (kReg (sS 2 (xT 3) sEnd))
 kRet)
 kSkip)
 (kSeq (kDraw [(.v (oMov (xT 1)), none), (.v (oMov (xT 0)), none), (.v (oNilc (xL 0)), none), (.v (oFaddr 0 (xL 0)), none), (.v (oLoad (xL 0)), none), (.v (oMov (xT 0)), none), (.v (oNilc (xL 0)), none), (.v (oFaddr 1 (xL 0)), none), (.v (oLoad (xL 0)), none), (.v (oSlc 1 (xL 4) (some (xL 0)) none none), none), (.c (cVal (xL 9)) [(xL 0)], none), (.v (oMov (xL 0)), none), (.v (oExt 0 (xL 0)), none), (.v (oExt 1 (xL 1)), none), (.v (oMov (xL 1)), none), (.v (oMov (xL 1)), none)] 0 [none, none, none, none, (some 0), (some 1)] [])
 (kSeq (kRegC (fun k => (sV (oBin .lss .no (xT 4) (ki 0)) k)) (xL 0) (kSeq (kReg (sV (oNilc (xT 0)) (sV (oFaddr 2 (xL 0)) (sH (oStore 1 (xL 0) (ki 20)) sEnd))))
 (kSeq (kReg (sS 2 (xT 3) sEnd))
 kRet))
 kSkip)
 (kSeq (kReg (sV (oNilc (xT 0)) (sV (oFaddr 1 (xL 0)) (sV (oLoad (xL 0)) (sV (oBin .add .no (xL 0) (xT 4)) (sV (oNilc (xT 0)) (sV (oFaddr 1 (xL 0)) (sH (oStore 1 (xL 0) (xL 2)) sEnd))))))))
 (kSeq (kReg (sS 2 (xT 5) sEnd))
 kRet)))))))
theorem t317 : FF d317 Tryz.f317 a317 [(.t 2)] := ff Tryz.func317 (by kernel_rfl)
def x317 : XFn := .go a317 2 pd4 [(.t 2)]
def d318 : FD := ⟨318, 3, [4, 5, 7, 6]⟩
def a318 : CodeF := (kSeq (kReg (sS 3 (xK (str [])) (sS 4 (ki 0) sEnd)))
 (kSeq (kReg (sV (oLoad (xT 1)) (sC (cFn 204) [(xL 0), (xT 0)] (sV (oExt 0 (xL 0)) (sV (oExt 1 (xL 1)) (sS 6 (xL 1) (sS 5 (xL 0) sEnd)))))))
 (kSeq (kRegC (fun k => (sV (oBin .lss .no (xT 5) (ki 0)) (sG (xL 0) false (sV (oLoad (xT 2))) (sG (xL 1) false (sV (oBin .lss .no (xL 0) (ki 0))) (sV (oPick (xL 2) (xK (bool true)) (xL 0)) (sG (xL 0) false (sV (oMov (xT 6))) (sG (xL 1) false (sV (oLoad (xT 2))) (sG (xL 2) false (sV (oConv .u64 (xL 0))) (sG (xL 3) false (sV (oBin .gtr .no (xL 2) (xL 0))) (sV (oPick (xL 4) (xK (bool true)) (xL 0)) (sG (xL 0) false (sV (oMov (xT 6))) (sG (xL 1) false (sV (oMov (xT 0))) (sG (xL 2) false (sV (oLenL (xL 0))) (sG (xL 3) false (sV (oMov (xT 5))) (sG (xL 4) false (sV (oBin .sub .no (xL 1) (xL 0))) (sG (xL 5) false (sV (oConv .u64 (xL 0))) (sG (xL 6) false (sV (oBin .gtr .no (xL 5) (xL 0))) (sV (oPick (xL 7) (xK (bool true)) (xL 0)) k)))))))))))))))))) (xL 0) (kSeq (kReg (sS 3 (xK (str [])) (sS 4 (xK (int .i64 (.negSucc 0))) sEnd)))
 kRet)
 kSkip)
 (kSeq (kReg (sV (oConv .i64 (xT 6)) (sV (oBin .add .no (xT 5) (xL 0)) (sV (oSlc 1 (xT 0) (some (xT 5)) (some (xL 0)) none) (sV (oB2s (xL 0)) (sV (oConv .i64 (xT 6)) (sV (oBin .add .no (xT 5) (xL 0)) (sS 3 (xL 2) (sS 4 (xL 0) sEnd)))))))))
 kRet))))
theorem t318 : FF d318 Tryz.f318 a318 [(.t 3), (.t 4)] := ff Tryz.func318 (by kernel_rfl)
def x318 : XFn := .go a318 3 pd4 [(.t 3), (.t 4)]
def d319 : FD := ⟨319, 1, [2, 7, 8, 9, 6, 4, 3]⟩
def a319 : CodeF := (kSeq (kReg (sS 1 (xK (bool false)) sEnd))
 (kSeq (kSeq (kReg (sH (oS2b 5 (xT 0)) (sS 5 (xL 0) (sV (oLenL (xT 5)) (sS 2 (xL 0) (sS 3 (ki 0) sEnd))))))
 (kBlock 0 (kLoop (kSeq (kReg (sV (oBin .lss .no (xT 3) (xT 2)) (sS 4 (xL 0) sEnd)))
 (kSeq (kCond (xT 4) kSkip
 (kExit 0))
 (kSeq (kBlock 1 (kSeq (kReg (sV (oIaddr 1 (xT 5) (xT 3)) (sV (oLoad (xL 0)) (sS 7 (xT 3) (sS 6 (xL 0) sEnd)))))
 (kRegC (fun k => (sV (oBin .geq .no (xT 6) (xK (int .u8 (.ofNat 97)))) (sG (xL 0) true (sV (oMov (xT 6))) (sG (xL 1) true (sV (oBin .leq .no (xL 0) (xK (int .u8 (.ofNat 122))))) (sV (oPick (xL 2) (xL 0) (xK (bool false))) (sG (xL 0) false (sV (oMov (xT 6))) (sG (xL 1) false (sV (oBin .eql .no (xL 0) (xK (int .u8 (.ofNat 95))))) (sV (oPick (xL 2) (xK (bool true)) (xL 0)) (sG (xL 0) false (sV (oMov (xT 7))) (sG (xL 1) false (sV (oBin .gtr .no (xL 0) (ki 0))) (sG (xL 2) false (sV (oMov (xL 0))) (sG (xL 0) true (sV (oMov (xT 6))) (sG (xL 1) true (sV (oBin .geq .no (xL 0) (xK (int .u8 (.ofNat 48))))) (sG (xL 5) false (sV (oPick (xL 2) (xL 0) (xK (bool false)))) (sG (xL 6) false (sV (oMov (xL 0))) (sG (xL 0) true (sV (oMov (xT 6))) (sG (xL 1) true (sV (oBin .leq .no (xL 0) (xK (int .u8 (.ofNat 57))))) (sG (xL 9) false (sV (oPick (xL 2) (xL 0) (xK (bool false)))) (sV (oPick (xL 10) (xK (bool true)) (xL 0)) (sV (oUn .not (xL 0)) k)))))))))))))))))))) (xL 0) (kSeq (kReg (sS 1 (xK (bool false)) sEnd))
 kRet)
 kSkip)))
 (kReg (sV (oBin .add .no (xT 3) (ki 1)) (sS 3 (xL 0) sEnd)))))))))
 (kSeq (kReg (sV (oLenS (xT 0)) (sV (oBin .geq .no (xL 0) (ki 1)) (sG (xL 0) true (sV (oMov (xT 0))) (sG (xL 1) true (sV (oLenS (xL 0))) (sG (xL 2) true (sV (oBin .leq .no (xL 0) (ki 24))) (sV (oPick (xL 3) (xL 0) (xK (bool false))) (sS 1 (xL 0) sEnd))))))))
 kRet)))
theorem t319 : FF d319 Tryz.f319 a319 [(.t 1)] := ff Tryz.func319 (by kernel_rfl)
def x319 : XFn := .go a319 1 pd7 [(.t 1)]
def d321 : FD := ⟨321, 3, [6, 7, 8, 10, 9, 11]⟩
def a321 : CodeF := (kSeq (kReg (sS 3 (ki 0) (sS 4 (xK (bool false)) sEnd)))
 (kSeq (kReg (sV (oLenL (xT 0)) (sS 5 (xL 0) sEnd)))
 (kSeq (kReg (sS 7 (ki 0) (sS 6 (xT 5) sEnd)))
 (kSeq (kBlock 0 (kLoop (kSeq (kRegC (fun k => (sV (oBin .lss .no (xT 7) (xT 6)) k)) (xL 0) kSkip
 (kExit 0))
 (kBlock 1 (kSeq (kReg (sV (oBin .add .no (xT 7) (xT 6)) (sV (oConv .u64 (xL 0)) (sV (oBin .shr .no (xL 0) (xK (int .u64 (.ofNat 1)))) (sV (oConv .i64 (xL 0)) (sS 8 (xL 0) sEnd))))))
 (kRegC (fun k => (sV (oIaddr 3 (xT 0) (xT 8)) (sV (oLoadN 3 (xL 0)) (sC (cVal (xT 2)) [(xL 0), (xT 1)] (sV (oBin .lss .no (xL 0) (ki 0)) k))))) (xL 0) (kReg (sV (oBin .add .no (xT 8) (ki 1)) (sS 7 (xL 0) sEnd)))
 (kReg (sS 6 (xT 8) sEnd))))))))
 (kSeq (kReg (sV (oBin .lss .no (xT 7) (xT 5)) (sG (xL 0) true (sV (oMov (xT 2))) (sG (xL 1) true (sV (oMov (xT 0))) (sG (xL 2) true (sV (oMov (xT 7))) (sG (xL 3) true (sV (oIaddr 3 (xL 1) (xL 0))) (sG (xL 4) true (sV (oLoadN 3 (xL 0))) (sG (xL 5) true (sV (oMov (xT 1))) (sG (xL 6) true (sC (cVal (xL 5)) [(xL 1), (xL 0)]) (sG (xL 7) true (sV (oBin .eql .no (xL 0) (ki 0))) (sV (oPick (xL 8) (xL 0) (xK (bool false))) (sS 3 (xT 7) (sS 4 (xL 0) sEnd)))))))))))))
 kRet)))))
theorem t321 : FF d321 Tryz.f321 a321 [(.t 3), (.t 4)] := ff Tryz.func321 (by kernel_rfl)
def x321 : XFn := .go a321 3 pd6 [(.t 3), (.t 4)]
def d322 : FD := ⟨322, 2, [4, 2]⟩
def a322 : CodeF := (kSeq (kReg (sH (oBox 308 3 (xT 0)) (sS 3 (xL 0) (sS 2 (ki 0) sEnd))))
 (kSeq (kReg (sV (oFaddr 1 (xT 3)) (sV (oLoad (xL 0)) (sV (oBin .sub .no (xL 0) (xT 1)) (sS 2 (xL 0) sEnd)))))
 kRet))
theorem t322 : FF d322 Tryz.f322 a322 [(.t 2)] := ff Tryz.func322 (by kernel_rfl)
def x322 : XFn := .go a322 2 pd2 [(.t 2)]
def d323 : FD := ⟨323, 1, [2]⟩
def a323 : CodeF := (kSeq (kReg (sS 1 (xK (str [])) sEnd))
 (kSeq (kRegC (fun k => (sV (oBin .lss .no (xT 0) (ki 10)) k)) (xL 0) (kSeq (kReg (sV (oBin .add .no (xT 0) (ki 1)) (sV (oSlcs (xK (str [48, 49, 50, 51, 52, 53, 54, 55, 56, 57, 97, 98, 99, 100, 101, 102, 103, 104, 105, 106, 107, 108, 109, 110, 111, 112, 113, 114, 115, 116, 117, 118, 119, 120, 121, 122])) (some (xT 0)) (some (xL 0))) (sS 1 (xL 0) sEnd))))
 kRet)
 kSkip)
 (kSeq (kReg (sV (oBin .mul .no (xT 0) (ki 2)) (sV (oBin .mul .no (xT 0) (ki 2)) (sV (oBin .add .no (xL 0) (ki 2)) (sV (oSlcs (xK (str [48, 48, 48, 49, 48, 50, 48, 51, 48, 52, 48, 53, 48, 54, 48, 55, 48, 56, 48, 57, 49, 48, 49, 49, 49, 50, 49, 51, 49, 52, 49, 53, 49, 54, 49, 55, 49, 56, 49, 57, 50, 48, 50, 49, 50, 50, 50, 51, 50, 52, 50, 53, 50, 54, 50, 55, 50, 56, 50, 57, 51, 48, 51, 49, 51, 50, 51, 51, 51, 52, 51, 53, 51, 54, 51, 55, 51, 56, 51, 57, 52, 48, 52, 49, 52, 50, 52, 51, 52, 52, 52, 53, 52, 54, 52, 55, 52, 56, 52, 57, 53, 48, 53, 49, 53, 50, 53, 51, 53, 52, 53, 53, 53, 54, 53, 55, 53, 56, 53, 57, 54, 48, 54, 49, 54, 50, 54, 51, 54, 52, 54, 53, 54, 54, 54, 55, 54, 56, 54, 57, 55, 48, 55, 49, 55, 50, 55, 51, 55, 52, 55, 53, 55, 54, 55, 55, 55, 56, 55, 57, 56, 48, 56, 49, 56, 50, 56, 51, 56, 52, 56, 53, 56, 54, 56, 55, 56, 56, 56, 57, 57, 48, 57, 49, 57, 50, 57, 51, 57, 52, 57, 53, 57, 54, 57, 55, 57, 56, 57, 57])) (some (xL 2)) (some (xL 0))) (sS 1 (xL 0) sEnd))))))
 kRet)))
theorem t323 : FF d323 Tryz.f323 a323 [(.t 1)] := ff Tryz.func323 (by kernel_rfl)
def x323 : XFn := .go a323 1 pd1 [(.t 1)]
def d333 : FD := ⟨333, 1, [2]⟩
def a333 : CodeF := (kSeq (kReg (sS 1 (xK (bool false)) sEnd))
 (kSeq (kReg (sV (oBin .neq .no (xT 0) (xT 0)) (sS 1 (xL 0) sEnd)))
 kRet))
theorem t333 : FF d333 Tryz.f333 a333 [(.t 1)] := ff Tryz.func333 (by kernel_rfl)
def x333 : XFn := .go a333 1 pd1 [(.t 1)]
def d334 : FD := ⟨334, 1, [2]⟩
def a334 : CodeF := (kSeq (kReg (sS 1 (ki 0) sEnd))
 (kSeq (kRegC (fun k => (sV (oBin .eql .no (xT 0) (xK (int .u64 (.ofNat 0)))) k)) (xL 0) (kSeq (kReg (sS 1 (ki 64) sEnd))
 kRet)
 kSkip)
 (kSeq (kReg (sV (oUn .neg (xT 0)) (sV (oBin .and .no (xT 0) (xL 0)) (sV (oBin .mul .no (xL 0) (xK (int .u64 (.ofNat 285870213051353865)))) (sV (oBin .shr .no (xL 0) (xK (int .u64 (.ofNat 58)))) (sV (oIaddra 64 1 (xK (ptr 4 0)) (xL 0)) (sV (oLoad (xL 0)) (sV (oConv .i64 (xL 0)) (sS 1 (xL 0) sEnd)))))))))
 kRet)))
theorem t334 : FF d334 Tryz.f334 a334 [(.t 1)] := ff Tryz.func334 (by kernel_rfl)
def x334 : XFn := .go a334 1 pd1 [(.t 1)]
def d335 : FD := ⟨335, 1, [2, 3, 4]⟩
def a335 : CodeF := (kSeq (kReg (sS 1 (xK (int .u32 (.ofNat 0))) sEnd))
 (kSeq (kSeq (kReg (sS 2 (ki 0) sEnd))
 (kBlock 0 (kLoop (kSeq (kReg (sV (oBin .lss .no (xT 2) (ki 4)) (sS 3 (xL 0) sEnd)))
 (kSeq (kCond (xT 3) kSkip
 (kExit 0))
 (kSeq (kBlock 1 (kReg (sV (oMov (xT 0)) (sV (oBin .shr .no (xL 0) (xK (int .u64 (.ofNat 1)))) (sV (oMov (xT 0)) (sV (oBin .and .no (xL 0) (xK (int .u32 (.ofNat 1)))) (sV (oBin .mul .no (xK (int .u32 (.ofNat 3988292384))) (xL 0)) (sV (oBin .xor .no (xL 3) (xL 0)) (sS 0 (xL 0) sEnd)))))))))
 (kReg (sV (oBin .add .no (xT 2) (ki 1)) (sS 2 (xL 0) sEnd)))))))))
 (kSeq (kReg (sS 1 (xT 0) sEnd))
 kRet)))
theorem t335 : FF d335 Tryz.f335 a335 [(.t 1)] := ff Tryz.func335 (by kernel_rfl)
def x335 : XFn := .go a335 1 pd3 [(.t 1)]
def d343 : FD := ⟨343, 2, [4, 6, 7, 2, 5]⟩
def a343 : CodeF := (kSeq (kReg (sH (oBox 46 1 (xT 0)) (sS 5 (xL 0) (sS 2 (xK nils) sEnd))))
 (kSeq (kSeq (kReg (sS 3 (xT 1) sEnd))
 (kBlock 0 (kRf 16782714 [4] (xT 3))))
 (kSeq (kReg (sV (oLoad (xT 5)) (sS 2 (xL 0) sEnd)))
 kRet)))
theorem t343 : FF d343 Tryz.f343 a343 [(.t 2)] := ff Tryz.func343 (by kernel_rfl)
def x343 : XFn := .go a343 2 pd5 [(.t 2)]
def r343x0 : CodeF × CodeF := ((kReg (sS 6 (xT 4) sEnd)),
 (kBlock 1 (kReg (sV (oLoad (xT 5)) (sH (oBsl 3 1 1 [(int .i64 (.ofNat 0))] [(0, 1, (xT 6))]) (sH (oApp 3 1 (xL 1) (xL 0)) (sH (oStore 1 (xT 5) (xL 0)) sEnd)))))))
theorem u343x0 : RfFact Tryz.prog d343 Tryz.f343 16782714 r343x0 := ⟨Tryz.func343, by kernel_rfl⟩
def d344 : FD := ⟨344, 4, [10, 8, 12, 11, 9, 87, 13, 15, 14, 17, 16, 18]⟩
def a344 : CodeF := (kSeq (kReg (sS 5 (xK (bool true)) sEnd))
 (kSeq (kReg (sS 8 (xK (bool true)) sEnd))
 (kBlock 0 (kLoop (kBlock 1 (kSeq (kReg (sV (oBin .sub .no (xT 2) (xT 1)) (sS 4 (xL 0) sEnd)))
 (kSeq (kRegC (fun k => (sV (oBin .leq .no (xT 4) (ki 12)) k)) (xL 0) (kSeq (kReg (sC (cFn 392) [(xT 0), (xT 1), (xT 2)] sEnd))
 kRet)
 kSkip)
 (kSeq (kRegC (fun k => (sV (oBin .eql .no (xT 3) (ki 0)) k)) (xL 0) (kSeq (kReg (sC (cFn 393) [(xT 0), (xT 1), (xT 2)] sEnd))
 kRet)
 kSkip)
 (kSeq (kRegC (fun k => (sV (oUn .not (xT 5)) k)) (xL 0) (kSeq (kReg (sC (cFn 394) [(xT 0), (xT 1), (xT 2)] sEnd))
 (kReg (sV (oMov (xT 3)) (sV (oBin .sub .no (xL 0) (ki 1)) (sS 3 (xL 0) sEnd)))))
 kSkip)
 (kSeq (kReg (sC (cFn 395) [(xT 0), (xT 1), (xT 2)] (sV (oExt 0 (xL 0)) (sV (oExt 1 (xL 1)) (sS 7 (xL 1) (sS 6 (xL 0) sEnd))))))
 (kSeq (kRegC (fun k => (sV (oBin .eql .no (xT 6) (ki 2)) k)) (xL 0) (kSeq (kReg (sC (cFn 396) [(xT 0), (xT 1), (xT 2)] sEnd))
 (kSeq (kReg (sV (oBin .sub .no (xT 2) (ki 1)) (sV (oMov (xT 7)) (sV (oBin .sub .no (xL 0) (xT 1)) (sV (oBin .sub .no (xL 2) (xL 0)) (sS 7 (xL 0) sEnd))))))
 (kReg (sS 6 (ki 1) sEnd))))
 kSkip)
 (kSeq (kRegC (fun k => (sG (xT 5) true (sV (oMov (xT 8))) (sV (oPick (xT 5) (xL 0) (xK (bool false))) (sG (xL 0) true (sV (oMov (xT 6))) (sG (xL 1) true (sV (oBin .eql .no (xL 0) (ki 1))) (sV (oPick (xL 2) (xL 0) (xK (bool false))) k)))))) (xL 0) (kRegC (fun k => (sC (cFn 397) [(xT 0), (xT 1), (xT 2)] k)) (xL 0) kRet
 kSkip)
 kSkip)
 (kSeq (kSeq (kDraw [(.v (oMov (xT 1)), none), (.v (oBin .gtr .no (xL 0) (ki 0)), none), (.v (oMov (xL 0)), none), (.v (oMov (xT 0)), (some ((xL 0), true))), (.v (oMov (xT 1)), (some ((xL 1), true))), (.v (oBin .sub .no (xL 0) (ki 1)), (some ((xL 2), true))), (.v (oIaddr 1 (xL 2) (xL 0)), (some ((xL 3), true))), (.v (oLoad (xL 0)), (some ((xL 4), true))), (.v (oMov (xT 0)), (some ((xL 5), true))), (.v (oMov (xT 7)), (some ((xL 6), true))), (.v (oIaddr 1 (xL 1) (xL 0)), (some ((xL 7), true))), (.v (oLoad (xL 0)), (some ((xL 8), true))), (.c (cFn 398) [(xL 4), (xL 0)], (some ((xL 9), true))), (.v (oUn .not (xL 0)), (some ((xL 10), true))), (.v (oPick (xL 11) (xL 0) (xK (bool false))), none)] 0 [none, none, none, none, none, none, none, none, none, (some 0), none, none, none, none, none, none] [])
 (kCond (xT 9) (kSeq (kReg (sC (cFn 399) [(xT 0), (xT 1), (xT 2), (xT 7)] (sS 10 (xL 0) sEnd)))
 (kSeq (kReg (sS 1 (xT 10) sEnd))
 (kExit 1)))
 kSkip))
 (kSeq (kReg (sC (cFn 400) [(xT 0), (xT 1), (xT 2), (xT 7)] (sV (oExt 0 (xL 0)) (sV (oExt 1 (xL 1)) (sS 12 (xL 1) (sS 11 (xL 0) sEnd))))))
 (kSeq (kReg (sS 8 (xT 11) sEnd))
 (kSeq (kReg (sV (oBin .sub .no (xT 12) (xT 1)) (sV (oBin .sub .no (xT 2) (xT 12)) (sS 14 (xL 1) (sS 13 (xL 0) sEnd)))))
 (kSeq (kReg (sV (oBin .quo .no (xT 4) (ki 8)) (sS 15 (xL 0) sEnd)))
 (kRegC (fun k => (sV (oBin .lss .no (xT 14) (xT 13)) k)) (xL 0) (kSeq (kReg (sV (oBin .geq .no (xT 14) (xT 15)) (sS 5 (xL 0) sEnd)))
 (kSeq (kReg (sC (cFn 344) [(xT 0), (xT 1), (xT 12), (xT 3)] sEnd))
 (kReg (sV (oBin .add .no (xT 12) (ki 1)) (sS 1 (xL 0) sEnd)))))
 (kSeq (kReg (sV (oBin .geq .no (xT 13) (xT 15)) (sS 5 (xL 0) sEnd)))
 (kSeq (kReg (sV (oBin .add .no (xT 12) (ki 1)) (sC (cFn 344) [(xT 0), (xL 0), (xT 2), (xT 3)] sEnd)))
 (kReg (sS 2 (xT 12) sEnd))))))))))))))))))))))
theorem t344 : FF d344 Tryz.f344 a344 [] := ff Tryz.func344 (by kernel_rfl)
def x344 : XFn := .go a344 4 pd12 []
def d345 : FD := ⟨345, 3, [4, 5, 6]⟩
def a345 : CodeF := (kSeq (kReg (sS 3 (xK (str [])) sEnd))
 (kSeq (kRegC (fun k => (sV (oBin .eql .no (xT 0) (ki 0)) k)) (xL 0) (kSeq (kReg (sV (oLoad (xT 1)) (sC (cFn 245) [(xL 0), (ki 4096)] (sS 3 (xL 0) sEnd))))
 kRet)
 kSkip)
 (kSeq (kDraw [(.v (oLoad (xT 1)), none), (.v (oLoad (xT 2)), none), (.v (oMov (xT 0)), none), (.v (oBin .sub .no (xL 0) (ki 1)), none), (.v (oIaddr 1 (xL 2) (xL 0)), none), (.v (oLoad (xL 0)), none), (.v (oLenS (xL 0)), none), (.c (cFn 110) [(xL 6), (xL 0)], none), (.v (oMov (xL 0)), none)] 0 [none, none, none, none, (some 0), none] [])
 (kSeq (kDraw [(.v (oLoad (xT 2)), none), (.v (oMov (xT 0)), none), (.v (oBin .sub .no (xL 0) (ki 1)), none), (.v (oIaddr 1 (xL 2) (xL 0)), none), (.v (oLoad (xL 0)), none), (.v (oMov (xT 4)), none), (.v (oSlcs (xL 1) none (some (xL 0))), none), (.v (oLoad (xT 1)), none), (.c (cFn 245) [(xL 0), (ki 4096)], none), (.v (oBin .add .no (xL 2) (xL 0)), none), (.v (oMov (xL 0)), none)] 0 [none, none, none, none, none, (some 0)] [(10, 2), (6, 2)])
 (kSeq (kRegC (fun k => (sV (oLoad (xT 1)) (sC (cFn 115) [(xL 0)] (sV (oBin .neq .no (xL 0) (ki 0)) (sG (xL 0) false (sV (oMov (xT 5))) (sG (xL 1) false (sV (oLoad (xT 2))) (sG (xL 2) false (sV (oMov (xT 0))) (sG (xL 3) false (sV (oBin .sub .no (xL 0) (ki 1))) (sG (xL 4) false (sV (oIaddr 1 (xL 2) (xL 0))) (sG (xL 5) false (sV (oLoad (xL 0))) (sG (xL 6) false (sV (oBin .leq .no (xL 5) (xL 0))) (sV (oPick (xL 7) (xK (bool true)) (xL 0)) (sG (xL 0) false (sV (oLoad (xT 2))) (sG (xL 1) false (sV (oMov (xT 0))) (sG (xL 2) false (sV (oBin .sub .no (xL 0) (ki 1))) (sG (xL 3) false (sV (oIaddr 1 (xL 2) (xL 0))) (sG (xL 4) false (sV (oLoad (xL 0))) (sG (xL 5) false (sV (oMov (xT 5))) (sG (xL 6) false (sC (cFn 346) [(xL 1), (xL 0)]) (sG (xL 7) false (sV (oMov (xT 4))) (sG (xL 8) false (sV (oBin .neq .no (xL 1) (xL 0))) (sV (oPick (xL 9) (xK (bool true)) (xL 0)) (sG (xL 0) false (sV (oMov (xT 5))) (sG (xL 1) false (sV (oLenS (xL 0))) (sG (xL 2) false (sV (oBin .gtr .no (xL 0) (ki 4096))) (sV (oPick (xL 3) (xK (bool true)) (xL 0)) k)))))))))))))))))))))))))) (xL 0) (kSeq (kReg (sS 3 (xK (str [])) sEnd))
 kRet)
 kSkip)
 (kSeq (kReg (sS 3 (xT 5) sEnd))
 kRet))))))
theorem t345 : FF d345 Tryz.f345 a345 [(.t 3)] := ff Tryz.func345 (by kernel_rfl)
def x345 : XFn := .go a345 3 pd3 [(.t 3)]
def d347 : FD := ⟨347, 2, [3, 6, 5, 4]⟩
def a347 : CodeF := (kSeq (kReg (sS 2 (xK nils) sEnd))
 (kSeq (kReg (sV (oLoad (xT 1)) (sC (cFn 111) [(xL 0), (xT 0)] (sV (oExt 0 (xL 0)) (sV (oExt 1 (xL 1)) (sV (oExt 2 (xL 2)) (sS 5 (xL 2) (sS 4 (xL 1) (sS 3 (xL 0) sEnd)))))))))
 (kSeq (kRegC (fun k => (sV (oBin .neq .no (xT 3) (ki 0)) k)) (xL 0) (kSeq (kReg (sH (oStore 1 (xT 1) (xK nils)) sEnd))
 (kSeq (kReg (sS 2 (xK nils) sEnd))
 kRet))
 kSkip)
 (kSeq (kReg (sV (oLoad (xT 1)) (sV (oSlc 1 (xL 0) (some (xT 4)) none none) (sH (oStore 1 (xT 1) (xL 0)) sEnd))))
 (kSeq (kReg (sS 2 (xT 5) sEnd))
 kRet)))))
theorem t347 : FF d347 Tryz.f347 a347 [(.t 2)] := ff Tryz.func347 (by kernel_rfl)
def x347 : XFn := .go a347 2 pd4 [(.t 2)]
def d348 : FD := ⟨348, 1, [2, 8, 9, 10, 7, 6, 4, 3]⟩
def a348 : CodeF := (kSeq (kReg (sS 1 (xK (bool false)) sEnd))
 (kSeq (kReg (sS 8 (xK (int .i64 (.negSucc 0))) (sS 7 (ki 0) sEnd)))
 (kSeq (kSeq (kReg (sS 5 (xT 0) (sV (oLenL (xT 5)) (sS 2 (xL 0) (sS 3 (ki 0) sEnd)))))
 (kBlock 0 (kLoop (kSeq (kReg (sV (oBin .lss .no (xT 3) (xT 2)) (sS 4 (xL 0) sEnd)))
 (kSeq (kCond (xT 4) kSkip
 (kExit 0))
 (kSeq (kBlock 1 (kSeq (kReg (sV (oIaddr 2 (xT 5) (xT 3)) (sV (oLoadN 2 (xL 0)) (sH (oAlloc 275 2 [(int .i64 (.ofNat 0)), nils]) (sS 6 (xL 0) (sH (oStore 2 (xT 6) (xL 1)) sEnd))))))
 (kSeq (kReg (sV (oMov (xT 7)) (sV (oFaddr 1 (xT 6)) (sV (oLoad (xL 0)) (sV (oLenL (xL 0)) (sV (oBin .add .no (xL 3) (xL 0)) (sS 7 (xL 0) sEnd)))))))
 (kSeq (kRegC (fun k => (sV (oFaddr 0 (xT 6)) (sV (oLoad (xL 0)) (sV (oBin .leq .no (xL 0) (xT 8)) (sG (xL 0) false (sV (oFaddr 0 (xT 6))) (sG (xL 1) false (sV (oLoad (xL 0))) (sG (xL 2) false (sV (oBin .geq .no (xL 0) (ki 16384))) (sV (oPick (xL 3) (xK (bool true)) (xL 0)) (sG (xL 0) false (sV (oFaddr 1 (xT 6))) (sG (xL 1) false (sV (oLoad (xL 0))) (sG (xL 2) false (sV (oLenL (xL 0))) (sG (xL 3) false (sV (oBin .eql .no (xL 0) (ki 0))) (sV (oPick (xL 4) (xK (bool true)) (xL 0)) (sG (xL 0) false (sV (oMov (xT 7))) (sG (xL 1) false (sV (oBin .gtr .no (xL 0) (ki 1048576))) (sV (oPick (xL 2) (xK (bool true)) (xL 0)) (sG (xL 0) false (sV (oFaddr 1 (xT 6))) (sG (xL 1) false (sV (oLoad (xL 0))) (sG (xL 2) false (sC (cFn 401) [(xL 0)]) (sG (xL 3) false (sV (oUn .not (xL 0))) (sV (oPick (xL 4) (xK (bool true)) (xL 0)) (sG (xL 0) false (sV (oFaddr 1 (xT 6))) (sG (xL 1) false (sV (oLoad (xL 0))) (sG (xL 2) false (sV (oIaddr 1 (xL 0) (ki 0))) (sG (xL 3) false (sV (oLoad (xL 0))) (sG (xL 4) false (sV (oBin .lss .no (xL 0) (ki 0))) (sV (oPick (xL 5) (xK (bool true)) (xL 0)) (sG (xL 0) false (sV (oFaddr 1 (xT 6))) (sG (xL 1) false (sV (oLoad (xL 0))) (sG (xL 2) false (sV (oFaddr 1 (xT 6))) (sG (xL 3) false (sV (oLoad (xL 0))) (sG (xL 4) false (sV (oLenL (xL 0))) (sG (xL 5) false (sV (oBin .sub .no (xL 0) (ki 1))) (sG (xL 6) false (sV (oIaddr 1 (xL 4) (xL 0))) (sG (xL 7) false (sV (oLoad (xL 0))) (sG (xL 8) false (sV (oBin .gtr .no (xL 0) (ki 1048576))) (sV (oPick (xL 9) (xK (bool true)) (xL 0)) k))))))))))))))))))))))))))))))))))))) (xL 0) (kSeq (kReg (sS 1 (xK (bool false)) sEnd))
 kRet)
 kSkip)
 (kReg (sV (oFaddr 0 (xT 6)) (sV (oLoad (xL 0)) (sS 8 (xL 0) sEnd))))))))
 (kReg (sV (oBin .add .no (xT 3) (ki 1)) (sS 3 (xL 0) sEnd)))))))))
 (kSeq (kReg (sS 1 (xK (bool true)) sEnd))
 kRet))))
theorem t348 : FF d348 Tryz.f348 a348 [(.t 1)] := ff Tryz.func348 (by kernel_rfl)
def x348 : XFn := .go a348 1 pd8 [(.t 1)]
def d349 : FD := ⟨349, 2, [4, 3, 2]⟩
def a349 : CodeF := (kSeq (kReg (sH (oBox 271 1 (xT 0)) (sS 4 (xL 0) (sH (oBox 3 1 (xT 1)) (sS 3 (xL 0) (sS 2 (xK nilfunc) sEnd))))))
 (kSeq (kRegC (fun k => (sV (oLoad (xT 3)) (sV (oBin .lss .no (xL 0) (ki 1)) k))) (xL 0) (kReg (sV (oMkif 9 (xK (str [99, 97, 110, 110, 111, 116, 32, 98, 101, 32, 108, 101, 115, 115, 32, 116, 104, 97, 110, 32, 49]))) (sPan (xL 0))))
 kSkip)
 (kSeq (kReg (sV (oMkfn 402 [] [(xT 4), (xT 3)]) (sS 2 (xL 0) sEnd)))
 kRet)))
theorem t349 : FF d349 Tryz.f349 a349 [(.t 2)] := ff Tryz.func349 (by kernel_rfl)
def x349 : XFn := .go a349 2 pd3 [(.t 2)]
def d350 : FD := ⟨350, 2, [4, 14, 15, 16, 13, 9, 5, 6, 38, 39, 40, 37, 10, 12, 7]⟩
def a350 : CodeF := (kSeq (kReg (sS 2 (xK nils) sEnd))
 (kSeq (kReg (sS 8 (xK nils) (sS 9 (xK nils) (sS 16 (xK nils) sEnd))))
 (kSeq (kSeq (kReg (sS 6 (xT 0) (sV (oLenL (xT 6)) (sS 3 (xL 0) (sS 4 (ki 0) sEnd)))))
 (kBlock 0 (kLoop (kSeq (kReg (sV (oBin .lss .no (xT 4) (xT 3)) (sS 5 (xL 0) sEnd)))
 (kSeq (kCond (xT 5) kSkip
 (kExit 0))
 (kSeq (kBlock 1 (kSeq (kReg (sV (oIaddr 2 (xT 6) (xT 4)) (sV (oLoadN 2 (xL 0)) (sH (oAlloc 275 2 [(int .i64 (.ofNat 0)), nils]) (sS 7 (xL 0) (sH (oStore 2 (xT 7) (xL 1)) sEnd))))))
 (kSeq (kReg (sV (oMov (xT 8)) (sV (oFaddr 0 (xT 7)) (sV (oLoad (xL 0)) (sV (oBin .sub .no (xL 0) (xT 1)) (sV (oBin .sub .no (xL 0) (ki 1)) (sH (oBsl 2 1 1 [(int .i64 (.ofNat 0))] [(0, 1, (xL 0))]) (sH (oApp 2 1 (xL 5) (xL 0)) (sS 8 (xL 0) sEnd)))))))))
 (kSeq (kReg (sV (oFaddr 0 (xT 7)) (sV (oLoad (xL 0)) (sS 1 (xL 0) sEnd))))
 (kSeq (kReg (sV (oMov (xT 9)) (sV (oFaddr 1 (xT 7)) (sV (oLoad (xL 0)) (sV (oLenL (xL 0)) (sV (oBin .sub .no (xL 0) (ki 1)) (sH (oBsl 2 1 1 [(int .i64 (.ofNat 0))] [(0, 1, (xL 0))]) (sH (oApp 2 1 (xL 5) (xL 0)) (sS 9 (xL 0) sEnd)))))))))
 (kSeq (kReg (sS 14 (ki 0) sEnd))
 (kSeq (kReg (sV (oFaddr 1 (xT 7)) (sV (oLoad (xL 0)) (sS 13 (xL 0) (sV (oLenL (xT 13)) (sS 10 (xL 0) (sS 11 (ki 0) sEnd)))))))
 (kBlock 2 (kLoop (kSeq (kReg (sV (oBin .lss .no (xT 11) (xT 10)) (sS 12 (xL 0) sEnd)))
 (kSeq (kCond (xT 12) kSkip
 (kExit 2))
 (kSeq (kBlock 3 (kSeq (kReg (sV (oIaddr 1 (xT 13) (xT 11)) (sV (oLoad (xL 0)) (sS 15 (xL 0) sEnd))))
 (kSeq (kReg (sV (oMov (xT 16)) (sV (oBin .sub .no (xT 15) (xT 14)) (sH (oBsl 2 1 1 [(int .i64 (.ofNat 0))] [(0, 1, (xL 0))]) (sH (oApp 2 1 (xL 2) (xL 0)) (sS 16 (xL 0) sEnd))))))
 (kReg (sS 14 (xT 15) sEnd)))))
 (kReg (sV (oBin .add .no (xT 11) (ki 1)) (sS 11 (xL 0) sEnd)))))))))))))))
 (kReg (sV (oBin .add .no (xT 4) (ki 1)) (sS 4 (xL 0) sEnd)))))))))
 (kSeq (kReg (sC (cFn 121) [(xT 8)] (sC (cFn 121) [(xT 9)] (sC (cFn 121) [(xT 16)] (sH (oBsl 51 1 3 [nils] [(0, 1, (xL 2)), (1, 1, (xL 1)), (2, 1, (xL 0))]) (sC (cFn 172) [(xL 0)] (sS 2 (xL 0) sEnd)))))))
 kRet))))
theorem t350 : FF d350 Tryz.f350 a350 [(.t 2)] := ff Tryz.func350 (by kernel_rfl)
def x350 : XFn := .go a350 2 pd15 [(.t 2)]
def d351 : FD := ⟨351, 2, [4, 7, 8, 9, 5]⟩
def a351 : CodeF := (kSeq (kReg (sS 2 (ki 0) sEnd))
 (kSeq (kSeq (kReg (sV (oLenL (xT 0)) (sS 3 (xL 0) (sS 4 (ki 0) sEnd))))
 (kBlock 0 (kLoop (kSeq (kReg (sV (oBin .lss .no (xT 4) (xT 3)) (sS 5 (xL 0) sEnd)))
 (kSeq (kCond (xT 5) kSkip
 (kExit 0))
 (kSeq (kBlock 1 (kSeq (kReg (sS 6 (xT 4) sEnd))
 (kRegC (fun k => (sV (oIaddr 1 (xT 0) (xT 6)) (sV (oLoad (xL 0)) (sC (cVal (xT 1)) [(xL 0)] k)))) (xL 0) (kSeq (kReg (sS 2 (xT 6) sEnd))
 kRet)
 kSkip)))
 (kReg (sV (oBin .add .no (xT 4) (ki 1)) (sS 4 (xL 0) sEnd)))))))))
 (kSeq (kReg (sS 2 (xK (int .i64 (.negSucc 0))) sEnd))
 kRet)))
theorem t351 : FF d351 Tryz.f351 a351 [(.t 2)] := ff Tryz.func351 (by kernel_rfl)
def x351 : XFn := .go a351 2 pd5 [(.t 2)]
def d352 : FD := ⟨352, 1, [2]⟩
def a352 : CodeF := (kSeq (kReg (sS 1 (ki 0) sEnd))
 (kSeq (kRegC (fun k => (sV (oBin .eql .ptr (xT 0) (xK nilptr)) k)) (xL 0) (kSeq (kReg (sS 1 (ki 0) sEnd))
 kRet)
 kSkip)
 (kSeq (kReg (sV (oNilc (xT 0)) (sV (oFaddr 0 (xL 0)) (sV (oLoad (xL 0)) (sV (oLenL (xL 0)) (sS 1 (xL 0) sEnd))))))
 kRet)))
theorem t352 : FF d352 Tryz.f352 a352 [(.t 1)] := ff Tryz.func352 (by kernel_rfl)
def x352 : XFn := .go a352 1 pd1 [(.t 1)]
def d353 : FD := ⟨353, 2, [4, 15, 16, 17, 14, 7, 5]⟩
def a353 : CodeF := (kSeq (kReg (sS 2 (xK nils) sEnd))
 (kSeq (kRegC (fun k => (sV (oBin .eql .ptr (xT 0) (xK nilptr)) k)) (xL 0) (kSeq (kReg (sS 2 (xK nils) sEnd))
 kRet)
 kSkip)
 (kSeq (kReg (sS 8 (xK nils) sEnd))
 (kSeq (kSeq (kReg (sV (oNilc (xT 0)) (sV (oFaddr 0 (xL 0)) (sC (cFn 354) [(xL 0), (xT 1)] (sS 6 (xL 0) (sV (oLenL (xT 6)) (sS 3 (xL 0) (sS 4 (ki 0) sEnd))))))))
 (kBlock 0 (kLoop (kSeq (kReg (sV (oBin .lss .no (xT 4) (xT 3)) (sS 5 (xL 0) sEnd)))
 (kSeq (kCond (xT 5) kSkip
 (kExit 0))
 (kSeq (kBlock 1 (kSeq (kReg (sV (oIaddr 1 (xT 6) (xT 4)) (sV (oLoad (xL 0)) (sS 7 (xL 0) sEnd))))
 (kReg (sV (oMov (xT 8)) (sH (oBsl 3 1 1 [(int .i64 (.ofNat 0))] [(0, 1, (xT 7))]) (sH (oApp 3 1 (xL 1) (xL 0)) (sS 8 (xL 0) sEnd)))))))
 (kReg (sV (oBin .add .no (xT 4) (ki 1)) (sS 4 (xL 0) sEnd)))))))))
 (kSeq (kReg (sS 2 (xT 8) sEnd))
 kRet)))))
theorem t353 : FF d353 Tryz.f353 a353 [(.t 2)] := ff Tryz.func353 (by kernel_rfl)
def x353 : XFn := .go a353 2 pd7 [(.t 2)]
def d354 : FD := ⟨354, 2, [4, 5]⟩
def a354 : CodeF := (kSeq (kReg (sS 2 (xK nils) sEnd))
 (kSeq (kRegC (fun k => (sV (oBin .lss .no (xT 1) (ki 0)) (sG (xL 0) false (sV (oMov (xT 1))) (sG (xL 1) false (sV (oMov (xT 0))) (sG (xL 2) false (sC (cFn 352) [(xL 0)]) (sG (xL 3) false (sV (oBin .geq .no (xL 2) (xL 0))) (sV (oPick (xL 4) (xK (bool true)) (xL 0)) k))))))) (xL 0) (kSeq (kReg (sS 2 (xK nils) sEnd))
 kRet)
 kSkip)
 (kSeq (kReg (sS 3 (ki 0) sEnd))
 (kSeq (kRegC (fun k => (sV (oBin .gtr .no (xT 1) (ki 0)) k)) (xL 0) (kReg (sV (oNilc (xT 0)) (sV (oFaddr 0 (xL 0)) (sV (oLoad (xL 0)) (sV (oBin .sub .no (xT 1) (ki 1)) (sV (oIaddr 1 (xL 1) (xL 0)) (sV (oLoad (xL 0)) (sS 3 (xL 0) sEnd))))))))
 kSkip)
 (kSeq (kDraw [(.v (oMov (xT 0)), none), (.v (oNilc (xL 0)), none), (.v (oFaddr 1 (xL 0)), none), (.v (oLoad (xL 0)), none), (.v (oMov (xT 3)), none), (.v (oMov (xT 0)), none), (.v (oNilc (xL 0)), none), (.v (oFaddr 0 (xL 0)), none), (.v (oLoad (xL 0)), none), (.v (oMov (xT 1)), none), (.v (oIaddr 1 (xL 1) (xL 0)), none), (.v (oLoad (xL 0)), none), (.v (oSlc 1 (xL 8) (some (xL 7)) (some (xL 0)) none), none), (.v (oMov (xL 0)), none)] 0 [none, none, (some 0), none] [])
 kRet)))))
theorem t354 : FF d354 Tryz.f354 a354 [(.t 2)] := ff Tryz.func354 (by kernel_rfl)
def x354 : XFn := .go a354 2 pd2 [(.t 2)]
def d355 : FD := ⟨355, 2, []⟩
def a355 : CodeF := (kReg (sV (oLoad (xT 1)) (sH (oApp 5 1 (xL 0) (xT 0)) (sH (oStore 1 (xT 1) (xL 0)) sEnd))))
theorem t355 : FF d355 Tryz.f355 a355 [] := ff Tryz.func355 (by kernel_rfl)
def x355 : XFn := .go a355 2 pd0 []
def d356 : FD := ⟨356, 1, [2]⟩
def a356 : CodeF := (kSeq (kReg (sS 1 (xK nils) sEnd))
 (kSeq (kRegC (fun k => (sV (oBin .eql .slice (xT 0) (xK nils)) k)) (xL 0) (kSeq (kReg (sS 1 (xK nils) sEnd))
 kRet)
 kSkip)
 (kSeq (kReg (sH (oBsl 9 1 0 [(str [])] []) (sH (oApp 9 1 (xL 0) (xT 0)) (sS 1 (xL 0) sEnd))))
 kRet)))
theorem t356 : FF d356 Tryz.f356 a356 [(.t 1)] := ff Tryz.func356 (by kernel_rfl)
def x356 : XFn := .go a356 1 pd1 [(.t 1)]
def d392 : FD := ⟨392, 3, [6, 7, 30]⟩
def a392 : CodeF := (kSeq (kReg (sV (oBin .add .no (xT 1) (ki 1)) (sS 3 (xL 0) sEnd)))
 (kBlock 0 (kLoop (kSeq (kRegC (fun k => (sV (oBin .lss .no (xT 3) (xT 2)) k)) (xL 0) kSkip
 (kExit 0))
 (kSeq (kBlock 1 (kSeq (kReg (sS 4 (xT 3) sEnd))
 (kBlock 2 (kLoop (kSeq (kSeq (kDraw [(.v (oMov (xT 4)), none), (.v (oMov (xT 1)), none), (.v (oBin .gtr .no (xL 1) (xL 0)), none), (.v (oMov (xL 0)), none), (.v (oMov (xT 0)), (some ((xL 0), true))), (.v (oMov (xT 4)), (some ((xL 1), true))), (.v (oIaddr 1 (xL 1) (xL 0)), (some ((xL 2), true))), (.v (oLoad (xL 0)), (some ((xL 3), true))), (.v (oMov (xT 0)), (some ((xL 4), true))), (.v (oMov (xT 4)), (some ((xL 5), true))), (.v (oBin .sub .no (xL 0) (ki 1)), (some ((xL 6), true))), (.v (oIaddr 1 (xL 2) (xL 0)), (some ((xL 7), true))), (.v (oLoad (xL 0)), (some ((xL 8), true))), (.c (cFn 398) [(xL 5), (xL 0)], (some ((xL 9), true))), (.v (oPick (xL 10) (xL 0) (xK (bool false))), none)] 0 [none, none, none, none, none, (some 0)] [])
 (kCond (xT 5) kSkip
 (kExit 2)))
 (kSeq (kBlock 3 (kDraw [(.v (oMov (xT 0)), none), (.v (oMov (xT 4)), none), (.v (oMov (xT 0)), none), (.v (oMov (xT 4)), none), (.v (oBin .sub .no (xL 0) (ki 1)), none), (.v (oMov (xT 0)), none), (.v (oMov (xT 4)), none), (.v (oBin .sub .no (xL 0) (ki 1)), none), (.v (oIaddr 1 (xL 2) (xL 0)), none), (.v (oLoad (xL 0)), none), (.v (oMov (xT 0)), none), (.v (oMov (xT 4)), none), (.v (oIaddr 1 (xL 1) (xL 0)), none), (.v (oLoad (xL 0)), none), (.v (oIaddr 1 (xL 13) (xL 12)), none), (.h (oStore 1 (xL 0) (xL 5)), none), (.v (oIaddr 1 (xL 13) (xL 11)), none), (.h (oStore 1 (xL 0) (xL 3)), none)] 0 [none, none, none, none, none, none] []))
 (kReg (sV (oMov (xT 4)) (sV (oBin .sub .no (xL 0) (ki 1)) (sS 4 (xL 0) sEnd))))))))))
 (kReg (sV (oMov (xT 3)) (sV (oBin .add .no (xL 0) (ki 1)) (sS 3 (xL 0) sEnd)))))))))
theorem t392 : FF d392 Tryz.f392 a392 [] := ff Tryz.func392 (by kernel_rfl)
def x392 : XFn := .go a392 3 pd3 []
def d401 : FD := ⟨401, 1, [2, 3, 20]⟩
def a401 : CodeF := (kSeq (kReg (sS 1 (xK (bool false)) sEnd))
 (kSeq (kSeq (kReg (sV (oLenL (xT 0)) (sV (oBin .sub .no (xL 0) (ki 1)) (sS 2 (xL 0) sEnd))))
 (kBlock 0 (kLoop (kSeq (kRegC (fun k => (sV (oBin .gtr .no (xT 2) (ki 0)) k)) (xL 0) kSkip
 (kExit 0))
 (kSeq (kBlock 1 (kSeq (kDraw [(.v (oMov (xT 0)), none), (.v (oMov (xT 2)), none), (.v (oIaddr 1 (xL 1) (xL 0)), none), (.v (oLoad (xL 0)), none), (.v (oMov (xT 0)), none), (.v (oMov (xT 2)), none), (.v (oBin .sub .no (xL 0) (ki 1)), none), (.v (oIaddr 1 (xL 2) (xL 0)), none), (.v (oLoad (xL 0)), none), (.c (cFn 398) [(xL 5), (xL 0)], none)] 0 [none, none, none, (some 0)] [])
 (kCond (xT 3) (kSeq (kReg (sS 1 (xK (bool false)) sEnd))
 kRet)
 kSkip)))
 (kReg (sV (oMov (xT 2)) (sV (oBin .sub .no (xL 0) (ki 1)) (sS 2 (xL 0) sEnd)))))))))
 (kSeq (kReg (sS 1 (xK (bool true)) sEnd))
 kRet)))
theorem t401 : FF d401 Tryz.f401 a401 [(.t 1)] := ff Tryz.func401 (by kernel_rfl)
def x401 : XFn := .go a401 1 pd3 [(.t 1)]
def d402 : FD := ⟨402, 3, [4, 5]⟩
def a402 : CodeF := (kSeq (kReg (sS 3 (ki 0) sEnd))
 (kBlock 0 (kLoop (kSeq (kRegC (fun k => (sV (oLoad (xT 1)) (sV (oLenL (xL 0)) (sV (oBin .lss .no (xT 3) (xL 0)) k)))) (xL 0) kSkip
 (kExit 0))
 (kSeq (kBlock 1 (kSeq (kDraw [(.v (oLoad (xT 2)), none), (.v (oLoad (xT 1)), none), (.v (oMov (xT 3)), none), (.v (oSlc 2 (xL 1) (some (xL 0)) none none), none), (.v (oLenL (xL 0)), none), (.v (oMm false (xL 4) [(xL 0)]), none), (.v (oMov (xL 0)), none)] 0 [none, none, none, none, (some 0)] [])
 (kRegC (fun k => (sV (oLoad (xT 1)) (sV (oBin .add .no (xT 3) (xT 4)) (sV (oBin .add .no (xT 3) (xT 4)) (sV (oSlc 2 (xL 2) (some (xT 3)) (some (xL 1)) (some (xL 0))) (sC (cVal (xT 0)) [(xL 0)] (sV (oUn .not (xL 0)) k))))))) (xL 0) kRet
 kSkip)))
 (kReg (sV (oMov (xT 3)) (sV (oLoad (xT 2)) (sV (oBin .add .no (xL 1) (xL 0)) (sS 3 (xL 0) sEnd))))))))))
theorem t402 : FF d402 Tryz.f402 a402 [] := ff Tryz.func402 (by kernel_rfl)
def x402 : XFn := .go a402 3 pd2 []
end
end Go.Proofs.YtnljeinfkkeofaaGreatDoor
