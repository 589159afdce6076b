import Derived.Test.YtohoankmbhlafabGreatDoorP
import Derived.Test.YtohoankmbhlafabGreatDoorProg
import Derived.KernelRfl
/- The functions of the program as the interpreter has them; each is the program's, by the kernel. -/
set_option maxRecDepth 1000000
namespace Go.Proofs.YtohoankmbhlafabGreatDoor
open Go Go.Ai AVal
noncomputable section
def d201 : FD := ⟨201, 1, [2]⟩
def a201 : CodeF := (kSeq (kReg (sS 1 (ki 0) sEnd))
 (kSeq (kRegC (fun k => (sV (oBin .eql .ptr (xT 0) (xK nilptr)) k)) (xL 0) (kSeq (kReg (sS 1 (ki 0) sEnd))
 kRet)
 kSkip)
 (kSeq (kReg (sV (oNilc (xT 0)) (sV (oFaddr 0 (xL 0)) (sC (cFn 251) [(xL 0)] (sS 1 (xL 0) sEnd)))))
 kRet)))
theorem t201 : FF d201 Tryz.f201 a201 [(.t 1)] := ff Tryz.func201 (by kernel_rfl)
def x201 : XFn := .go a201 1 pd1 [(.t 1)]
def d202 : FD := ⟨202, 2, [4, 11, 12, 13, 10, 7, 5]⟩
def a202 : CodeF := (kSeq (kReg (sS 2 (xK nils) sEnd))
 (kSeq (kReg (sS 8 (xK nils) sEnd))
 (kSeq (kSeq (kReg (sC (cFn 252) [(xT 0), (xT 1)] (sS 6 (xL 0) (sV (oLenL (xT 6)) (sS 3 (xL 0) (sS 4 (ki 0) sEnd))))))
 (kBlock 0 (kLoop (kSeq (kReg (sV (oBin .lss .no (xT 4) (xT 3)) (sS 5 (xL 0) sEnd)))
 (kSeq (kCond (xT 5) kSkip
 (kExit 0))
 (kSeq (kBlock 1 (kSeq (kReg (sV (oIaddr 1 (xT 6) (xT 4)) (sV (oLoad (xL 0)) (sS 7 (xL 0) sEnd))))
 (kReg (sV (oMov (xT 8)) (sV (oNilc (xT 0)) (sV (oFaddr 2 (xL 0)) (sV (oLoad (xL 0)) (sV (oIaddr 1 (xL 0) (xT 7)) (sV (oLoad (xL 0)) (sH (oBsl 9 1 1 [(str [])] [(0, 1, (xL 0))]) (sH (oApp 9 1 (xL 6) (xL 0)) (sS 8 (xL 0) sEnd))))))))))))
 (kReg (sV (oBin .add .no (xT 4) (ki 1)) (sS 4 (xL 0) sEnd)))))))))
 (kSeq (kReg (sS 2 (xT 8) sEnd))
 kRet))))
theorem t202 : FF d202 Tryz.f202 a202 [(.t 2)] := ff Tryz.func202 (by kernel_rfl)
def x202 : XFn := .go a202 2 pd7 [(.t 2)]
def d203 : FD := ⟨203, 1, [2, 6, 7, 8, 4, 3]⟩
def a203 : CodeF := (kSeq (kReg (sS 1 (xK nils) sEnd))
 (kSeq (kReg (sS 6 (xK nils) sEnd))
 (kSeq (kSeq (kReg (sC (cFn 251) [(xT 0)] (sS 2 (xL 0) (sS 3 (ki 0) sEnd))))
 (kBlock 0 (kLoop (kSeq (kReg (sV (oBin .lss .no (xT 3) (xT 2)) (sS 4 (xL 0) sEnd)))
 (kSeq (kCond (xT 4) kSkip
 (kExit 0))
 (kSeq (kBlock 1 (kSeq (kReg (sS 5 (xT 3) sEnd))
 (kReg (sV (oMov (xT 6)) (sC (cFn 253) [(xT 0), (xT 5)] (sH (oBsl 63 1 1 [nils] [(0, 1, (xL 0))]) (sH (oApp 63 1 (xL 2) (xL 0)) (sS 6 (xL 0) sEnd))))))))
 (kReg (sV (oBin .add .no (xT 3) (ki 1)) (sS 3 (xL 0) sEnd)))))))))
 (kSeq (kReg (sS 1 (xT 6) sEnd))
 kRet))))
theorem t203 : FF d203 Tryz.f203 a203 [(.t 1)] := ff Tryz.func203 (by kernel_rfl)
def x203 : XFn := .go a203 1 pd6 [(.t 1)]
def d204 : FD := ⟨204, 2, [2, 4]⟩
def a204 : CodeF := (kSeq (kReg (sRec (sS 2 (xL 0) sEnd)))
 (kSeq (kReg (sV (oTass 351 (agg []) (xT 2)) (sV (oExt 0 (xL 0)) (sV (oExt 1 (xL 1)) (sH (oAlloc 351 0 []) (sH (oStore 0 (xL 0) (xL 2)) (sS 3 (xL 2) sEnd)))))))
 (kRegC (fun k => k) (xT 3) (kReg (sH (oStore 1 (xT 0) (xK nilptr)) (sH (oStore 1 (xT 1) (ki 20)) sEnd)))
 (kRegC (fun k => (sV (oBin .neq (.iface true) (xT 2) (xK nilif)) k)) (xL 0) (kReg (sPan (xT 2)))
 kSkip))))
theorem t204 : FF d204 Tryz.f204 a204 [] := ff Tryz.func204 (by kernel_rfl)
def x204 : XFn := .go a204 2 pd2 []
def d205 : FD := ⟨205, 1, []⟩
def a205 : CodeF := (kRegC (fun k => (sV (oUn .not (xT 0)) k)) (xL 0) (kReg (sV (oBuild [] []) (sV (oMkif 351 (xL 0)) (sPan (xL 0)))))
 kSkip)
theorem t205 : FF d205 Tryz.f205 a205 [] := ff Tryz.func205 (by kernel_rfl)
def x205 : XFn := .go a205 1 pd0 []
def d206 : FD := ⟨206, 2, [4, 5, 51, 52, 53, 63, 64, 65, 7, 6, 8, 9, 10]⟩
def a206 : CodeF := (kSeq (kReg (sS 2 (xK nilptr) sEnd))
 (kSeq (kReg (sV (oNilc (xT 0)) (sV (oFaddr 0 (xL 0)) (sV (oLoad (xL 0)) (sC (cFn 75) [(xL 0), (ki 1)] (sS 3 (xL 0) sEnd))))))
 (kSeq (kReg (sV (oNilc (xT 0)) (sV (oFaddr 0 (xL 0)) (sV (oLoad (xL 0)) (sC (cFn 78) [(xL 0)] (sV (oBin .eql .no (xL 0) (ki 0)) (sG (xL 0) true (sV (oMov (xT 3))) (sG (xL 1) true (sV (oIaddr 1 (xL 0) (ki 0))) (sG (xL 2) true (sV (oLoad (xL 0))) (sG (xL 3) true (sV (oBin .leq .no (xL 0) (xK (int .u8 (.ofNat 1))))) (sV (oPick (xL 4) (xL 0) (xK (bool false))) (sC (cFn 205) [(xL 0)] sEnd))))))))))))
 (kSeq (kRegC (fun k => (sV (oIaddr 1 (xT 3) (ki 0)) (sV (oLoad (xL 0)) (sV (oBin .eql .no (xL 0) (xK (int .u8 (.ofNat 0)))) k)))) (xL 0) (kSeq (kReg (sV (oNilc (xT 0)) (sV (oFaddr 0 (xL 0)) (sV (oLoad (xL 0)) (sC (cFn 73) [(xL 0), (ki 8)] (sV (oBin .eql .no (xL 0) (xT 1)) (sG (xL 0) true (sV (oMov (xT 0))) (sG (xL 1) true (sV (oNilc (xL 0))) (sG (xL 2) true (sV (oFaddr 0 (xL 0))) (sG (xL 3) true (sV (oLoad (xL 0))) (sG (xL 4) true (sC (cFn 78) [(xL 0)]) (sG (xL 5) true (sV (oBin .eql .no (xL 0) (ki 0))) (sV (oPick (xL 6) (xL 0) (xK (bool false))) (sC (cFn 205) [(xL 0)] sEnd))))))))))))))
 (kSeq (kReg (sV (oBuild [nils, (int .i64 (.ofNat 0)), (int .i64 (.ofNat 0)), nilptr, nilptr] []) (sH (oBox 407 5 (xL 0)) (sS 11 (xL 0) sEnd))))
 (kSeq (kSeq (kReg (sS 4 (xT 1) (sS 5 (ki 0) sEnd)))
 (kBlock 0 (kLoop (kSeq (kReg (sV (oBin .lss .no (xT 5) (xT 4)) (sS 6 (xL 0) sEnd)))
 (kSeq (kCond (xT 6) kSkip
 (kExit 0))
 (kSeq (kBlock 1 (kSeq (kReg (sV (oNilc (xT 0)) (sV (oFaddr 0 (xL 0)) (sV (oLoad (xL 0)) (sC (cFn 73) [(xL 0), (ki 16383)] (sV (oBuild [(int .i64 (.ofNat 0)), nils] [(0, 1, (xL 0))]) (sH (oAlloc 242 2 [(int .i64 (.ofNat 0)), nils]) (sS 10 (xL 0) (sH (oStore 2 (xT 10) (xL 1)) sEnd)))))))))
 (kSeq (kSeq (kReg (sV (oNilc (xT 0)) (sV (oFaddr 1 (xL 0)) (sV (oLoad (xL 0)) (sS 7 (xL 0) (sS 8 (ki 0) sEnd))))))
 (kBlock 2 (kLoop (kSeq (kReg (sV (oBin .lss .no (xT 8) (xT 7)) (sS 9 (xL 0) sEnd)))
 (kSeq (kCond (xT 9) kSkip
 (kExit 2))
 (kSeq (kBlock 3 (kDraw [(.v (oFaddr 1 (xT 10)), none), (.v (oLoad (xL 0)), none), (.v (oMov (xT 0)), none), (.v (oNilc (xL 0)), none), (.v (oFaddr 0 (xL 0)), none), (.v (oLoad (xL 0)), none), (.c (cFn 137) [(xL 0)], none), (.h (oBsl 2 1 1 [(int .i64 (.ofNat 0))] [(0, 1, (xL 0))]), none), (.h (oApp 2 1 (xL 6) (xL 0)), none), (.v (oFaddr 1 (xT 10)), none), (.h (oStore 1 (xL 0) (xL 1)), none)] 0 [none, none, none, none, none, none, none, none, none, none, none, none, none, none, none] [(9, 4), (9, 3)]))
 (kReg (sV (oBin .add .no (xT 8) (ki 1)) (sS 8 (xL 0) sEnd)))))))))
 (kSeq (kReg (sV (oNilc (xT 0)) (sV (oFaddr 0 (xL 0)) (sV (oLoad (xL 0)) (sC (cFn 78) [(xL 0)] (sV (oBin .eql .no (xL 0) (ki 0)) (sC (cFn 205) [(xL 0)] sEnd)))))))
 (kDraw [(.v (oMov (xT 11)), none), (.v (oMov (xT 11)), none), (.v (oNilc (xL 0)), none), (.v (oFaddr 0 (xL 0)), none), (.v (oLoad (xL 0)), none), (.v (oLoadN 2 (xT 10)), none), (.h (oBsl 242 2 1 [(int .i64 (.ofNat 0)), nils] [(0, 2, (xL 0))]), none), (.h (oApp 242 2 (xL 2) (xL 0)), none), (.v (oNilc (xL 7)), none), (.v (oFaddr 0 (xL 0)), none), (.h (oStore 1 (xL 0) (xL 2)), none)] 0 [none, none, none, none, none, none, none, none, none, none, none, none, none, none, none] [(6, 4)])))))
 (kReg (sV (oBin .add .no (xT 5) (ki 1)) (sS 5 (xL 0) sEnd)))))))))
 (kSeq (kDraw [(.v (oMov (xT 0)), none), (.v (oMov (xT 0)), none), (.v (oNilc (xL 0)), none), (.v (oFaddr 2 (xL 0)), none), (.v (oLoad (xL 0)), none), (.v (oMov (xT 11)), none), (.v (oNilc (xL 0)), none), (.v (oFaddr 0 (xL 0)), none), (.v (oLoad (xL 0)), none), (.h (oApp 242 2 (xL 4) (xL 0)), none), (.v (oNilc (xL 9)), none), (.v (oFaddr 2 (xL 0)), none), (.h (oStore 1 (xL 0) (xL 2)), none)] 0 [none, none, none, none, none, none, none, none, none, none, none, none, none, none, none] [])
 (kSeq (kReg (sS 2 (xT 11) sEnd))
 kRet)))))
 kSkip)
 (kSeq (kReg (sV (oBin .gtr .no (xT 1) (ki 8)) (sC (cFn 205) [(xL 0)] sEnd)))
 (kSeq (kDraw [(.v (oMov (xT 0)), none), (.v (oNilc (xL 0)), none), (.v (oFaddr 0 (xL 0)), none), (.v (oLoad (xL 0)), none), (.v (oMov (xT 0)), none), (.v (oNilc (xL 0)), none), (.v (oFaddr 1 (xL 0)), none), (.v (oLoad (xL 0)), none), (.v (oBin .sub .no (xL 0) (ki 1)), none), (.c (cFn 73) [(xL 5), (xL 0)], none), (.v (oMov (xT 0)), none), (.v (oNilc (xL 0)), none), (.v (oFaddr 0 (xL 0)), none), (.v (oLoad (xL 0)), none), (.c (cFn 137) [(xL 0)], none), (.v (oBuild [nils, (int .i64 (.ofNat 0)), (int .i64 (.ofNat 0)), nilptr, nilptr] [(1, 1, (xL 5)), (2, 1, (xL 0))]), none), (.h (oBox 407 5 (xL 0)), none), (.v (oMov (xL 0)), none)] 0 [none, none, none, none, none, none, none, none, none, none, none, none, (some 0), none, none] [(4, 8)])
 (kSeq (kDraw [(.v (oMov (xT 0)), none), (.v (oNilc (xL 0)), none), (.v (oFaddr 0 (xL 0)), none), (.v (oLoad (xL 0)), none), (.v (oMov (xT 0)), none), (.v (oNilc (xL 0)), none), (.v (oFaddr 0 (xL 0)), none), (.v (oLoad (xL 0)), none), (.c (cFn 76) [(xL 0)], none), (.c (cFn 73) [(xL 5), (xL 0)], none), (.v (oMov (xL 0)), none)] 0 [none, none, none, none, none, none, none, none, none, none, none, none, none, (some 0), none] [(7, 2)])
 (kSeq (kReg (sV (oNilc (xT 0)) (sV (oFaddr 0 (xL 0)) (sV (oLoad (xL 0)) (sC (cFn 78) [(xL 0)] (sV (oBin .eql .no (xL 0) (ki 0)) (sC (cFn 205) [(xL 0)] sEnd)))))))
 (kSeq (kReg (sV (oNilc (xT 0)) (sV (oFaddr 0 (xL 0)) (sV (oLoad (xL 0)) (sC (cFn 76) [(xL 0)] (sS 14 (xL 0) sEnd))))))
 (kSeq (kReg (sV (oBin .add .no (xT 1) (ki 1)) (sV (oBin .quo .no (xL 0) (ki 2)) (sC (cFn 206) [(xT 0), (xL 0)] (sV (oNilc (xT 12)) (sV (oFaddr 3 (xL 0)) (sH (oStore 1 (xL 0) (xL 2)) sEnd)))))))
 (kSeq (kReg (sV (oNilc (xT 0)) (sV (oFaddr 0 (xL 0)) (sV (oLoad (xL 0)) (sC (cFn 76) [(xL 0)] (sV (oBin .sub .no (xT 14) (xL 0)) (sV (oBin .eql .no (xL 0) (xT 13)) (sC (cFn 205) [(xL 0)] sEnd))))))))
 (kSeq (kReg (sV (oBin .quo .no (xT 1) (ki 2)) (sC (cFn 206) [(xT 0), (xL 0)] (sV (oNilc (xT 12)) (sV (oFaddr 4 (xL 0)) (sH (oStore 1 (xL 0) (xL 2)) sEnd))))))
 (kSeq (kReg (sS 2 (xT 12) sEnd))
 kRet)))))))))))))
theorem t206 : FF d206 Tryz.f206 a206 [(.t 2)] := ff Tryz.func206 (by kernel_rfl)
def x206 : XFn := .go a206 2 pd13 [(.t 2)]
def d207 : FD := ⟨207, 3, [4, 5]⟩
def a207 : CodeF := (kSeq (kReg (sS 3 (ki 0) sEnd))
 (kBlock 0 (kLoop (kSeq (kRegC (fun k => (sV (oLoad (xT 1)) (sV (oLenL (xL 0)) (sV (oBin .lss .no (xT 3) (xL 0)) k)))) (xL 0) kSkip
 (kExit 0))
 (kSeq (kBlock 1 (kSeq (kDraw [(.v (oLoad (xT 2)), none), (.v (oLoad (xT 1)), none), (.v (oMov (xT 3)), none), (.v (oSlc 1 (xL 1) (some (xL 0)) none none), none), (.v (oLenL (xL 0)), none), (.v (oMm false (xL 4) [(xL 0)]), none), (.v (oMov (xL 0)), none)] 0 [none, none, none, none, (some 0)] [])
 (kRegC (fun k => (sV (oLoad (xT 1)) (sV (oBin .add .no (xT 3) (xT 4)) (sV (oBin .add .no (xT 3) (xT 4)) (sV (oSlc 1 (xL 2) (some (xT 3)) (some (xL 1)) (some (xL 0))) (sC (cVal (xT 0)) [(xL 0)] (sV (oUn .not (xL 0)) k))))))) (xL 0) kRet
 kSkip)))
 (kReg (sV (oMov (xT 3)) (sV (oLoad (xT 2)) (sV (oBin .add .no (xL 1) (xL 0)) (sS 3 (xL 0) sEnd))))))))))
theorem t207 : FF d207 Tryz.f207 a207 [] := ff Tryz.func207 (by kernel_rfl)
def x207 : XFn := .go a207 3 pd2 []
def d208 : FD := ⟨208, 3, [6, 8, 7]⟩
def a208 : CodeF := (kSeq (kReg (sS 3 (xK nils) sEnd))
 (kSeq (kReg (sC (cFn 28) [(xT 0)] (sS 5 (xL 0) sEnd)))
 (kSeq (kReg (sC (cVal (xT 2)) [(xT 1)] (sS 4 (xL 0) sEnd)))
 (kSeq (kBlock 0 (kLoop (kSeq (kRegC (fun k => (sV (oBin .gtr .no (xT 4) (xK (int .u64 (.ofNat 127)))) k)) (xL 0) kSkip
 (kExit 0))
 (kSeq (kBlock 1 (kReg (sV (oMov (xT 5)) (sV (oConv .u8 (xT 4)) (sV (oBin .or .no (xL 0) (xK (int .u8 (.ofNat 128)))) (sH (oBsl 5 1 1 [(int .u8 (.ofNat 0))] [(0, 1, (xL 0))]) (sH (oApp 5 1 (xL 3) (xL 0)) (sS 5 (xL 0) sEnd))))))))
 (kReg (sV (oMov (xT 4)) (sV (oBin .shr .no (xL 0) (xK (int .u64 (.ofNat 7)))) (sS 4 (xL 0) sEnd))))))))
 (kSeq (kReg (sV (oConv .u8 (xT 4)) (sH (oBsl 5 1 1 [(int .u8 (.ofNat 0))] [(0, 1, (xL 0))]) (sH (oApp 5 1 (xT 5) (xL 0)) (sC (cFn 27) [(xL 0)] (sS 3 (xL 0) sEnd))))))
 kRet)))))
theorem t208 : FF d208 Tryz.f208 a208 [(.t 3)] := ff Tryz.func208 (by kernel_rfl)
def x208 : XFn := .go a208 3 pd3 [(.t 3)]
def d209 : FD := ⟨209, 1, [2]⟩
def a209 : CodeF := (kSeq (kReg (sS 1 (xK (int .u64 (.ofNat 0))) sEnd))
 (kSeq (kReg (sV (oBin .shl .no (xT 0) (xK (int .u64 (.ofNat 1)))) (sV (oConv .u64 (xL 0)) (sV (oBin .shr .no (xT 0) (xK (int .u64 (.ofNat 63)))) (sV (oConv .u64 (xL 0)) (sV (oBin .xor .no (xL 2) (xL 0)) (sS 1 (xL 0) sEnd)))))))
 kRet))
theorem t209 : FF d209 Tryz.f209 a209 [(.t 1)] := ff Tryz.func209 (by kernel_rfl)
def x209 : XFn := .go a209 1 pd1 [(.t 1)]
def d210 : FD := ⟨210, 1, [2, 3, 4, 5, 18, 19, 20, 17, 7, 63, 64, 65, 62, 9]⟩
def a210 : CodeF := (kSeq (kReg (sS 1 (xK nils) (sS 2 (xK (bool false)) sEnd)))
 (kSeq (kReg (sH (oAlloc 47 1 [nils]) (sS 3 (xL 0) sEnd)))
 (kSeq (kReg (sV (oMkfn 254 [] [(xT 3)]) (sS 4 (xL 0) sEnd)))
 (kSeq (kReg (sV (oLenL (xT 0)) (sV (oConv .u64 (xL 0)) (sC (cFn 83) [(xK nils), (xL 0)] (sC (cVal (xT 4)) [(xL 0)] sEnd)))))
 (kSeq (kSeq (kReg (sS 8 (xT 0) (sV (oLenL (xT 8)) (sS 5 (xL 0) (sS 6 (ki 0) sEnd)))))
 (kBlock 0 (kLoop (kSeq (kReg (sV (oBin .lss .no (xT 6) (xT 5)) (sS 7 (xL 0) sEnd)))
 (kSeq (kCond (xT 7) kSkip
 (kExit 0))
 (kSeq (kBlock 1 (kSeq (kReg (sV (oIaddr 3 (xT 8) (xT 6)) (sV (oLoadN 3 (xL 0)) (sH (oAlloc 65 3 [(str []), (str []), nils]) (sS 9 (xL 0) (sH (oStore 3 (xT 9) (xL 1)) sEnd))))))
 (kSeq (kRegC (fun k => (sV (oLenL (xT 0)) (sV (oBin .gtr .no (xL 0) (ki 64)) (sG (xL 0) false (sV (oFaddr 0 (xT 9))) (sG (xL 1) false (sV (oLoad (xL 0))) (sG (xL 2) false (sV (oLenS (xL 0))) (sG (xL 3) false (sV (oBin .gtr .no (xL 0) (ki 24))) (sV (oPick (xL 4) (xK (bool true)) (xL 0)) (sG (xL 0) false (sV (oFaddr 1 (xT 9))) (sG (xL 1) false (sV (oLoad (xL 0))) (sG (xL 2) false (sV (oLenS (xL 0))) (sG (xL 3) false (sV (oBin .gtr .no (xL 0) (ki 4096))) (sV (oPick (xL 4) (xK (bool true)) (xL 0)) (sG (xL 0) false (sV (oFaddr 2 (xT 9))) (sG (xL 1) false (sV (oLoad (xL 0))) (sG (xL 2) false (sV (oLenL (xL 0))) (sG (xL 3) false (sV (oBin .gtr .no (xL 0) (ki 4))) (sV (oPick (xL 4) (xK (bool true)) (xL 0)) k)))))))))))))))))) (xL 0) (kSeq (kReg (sS 1 (xK nils) (sS 2 (xK (bool false)) sEnd)))
 kRet)
 kSkip)
 (kSeq (kReg (sV (oFaddr 0 (xT 9)) (sV (oLoad (xL 0)) (sC (cFn 213) [(xK nils), (xL 0)] (sC (cVal (xT 4)) [(xL 0)] sEnd)))))
 (kSeq (kReg (sV (oFaddr 1 (xT 9)) (sV (oLoad (xL 0)) (sC (cFn 213) [(xK nils), (xL 0)] (sC (cVal (xT 4)) [(xL 0)] sEnd)))))
 (kSeq (kReg (sV (oFaddr 2 (xT 9)) (sV (oLoad (xL 0)) (sV (oLenL (xL 0)) (sV (oConv .u64 (xL 0)) (sC (cFn 83) [(xK nils), (xL 0)] (sC (cVal (xT 4)) [(xL 0)] sEnd)))))))
 (kSeq (kReg (sV (oFaddr 2 (xT 9)) (sV (oLoad (xL 0)) (sS 13 (xL 0) (sV (oLenL (xT 13)) (sS 10 (xL 0) (sS 11 (ki 0) sEnd)))))))
 (kBlock 2 (kLoop (kSeq (kReg (sV (oBin .lss .no (xT 11) (xT 10)) (sS 12 (xL 0) sEnd)))
 (kSeq (kCond (xT 12) kSkip
 (kExit 2))
 (kSeq (kBlock 3 (kSeq (kReg (sV (oIaddr 1 (xT 13) (xT 11)) (sV (oLoad (xL 0)) (sS 14 (xL 0) sEnd))))
 (kReg (sC (cFn 163) [(xK nils), (xT 14)] (sC (cVal (xT 4)) [(xL 0)] sEnd)))))
 (kReg (sV (oBin .add .no (xT 11) (ki 1)) (sS 11 (xL 0) sEnd)))))))))))))))
 (kReg (sV (oBin .add .no (xT 6) (ki 1)) (sS 6 (xL 0) sEnd)))))))))
 (kSeq (kReg (sV (oLoad (xT 3)) (sS 1 (xL 0) (sS 2 (xK (bool true)) sEnd))))
 kRet))))))
theorem t210 : FF d210 Tryz.f210 a210 [(.t 1), (.t 2)] := ff Tryz.func210 (by kernel_rfl)
def x210 : XFn := .go a210 1 pd14 [(.t 1), (.t 2)]
def d211 : FD := ⟨211, 2, [4, 5, 27, 28, 29, 26, 7, 6, 9, 10, 12, 13, 11, 102, 103, 104, 101, 15, 8]⟩
def a211 : CodeF := (kSeq (kReg (sS 2 (xK nils) (sS 3 (ki 0) sEnd)))
 (kSeq (kRegC (fun k => (sV (oLenL (xT 0)) (sV (oBin .gtr .no (xL 0) (ki 1048576)) (sG (xL 0) false (sV (oMov (xT 0))) (sG (xL 1) false (sV (oLenL (xL 0))) (sG (xL 2) false (sV (oMov (xT 1))) (sG (xL 3) false (sV (oLenL (xL 0))) (sG (xL 4) false (sV (oBin .neq .no (xL 2) (xL 0))) (sV (oPick (xL 5) (xK (bool true)) (xL 0)) k))))))))) (xL 0) (kSeq (kReg (sS 2 (xK nils) (sS 3 (ki 1) sEnd)))
 kRet)
 kSkip)
 (kSeq (kSeq (kReg (sS 7 (xT 0) (sV (oLenL (xT 7)) (sS 4 (xL 0) (sS 5 (ki 0) sEnd)))))
 (kBlock 0 (kLoop (kSeq (kReg (sV (oBin .lss .no (xT 5) (xT 4)) (sS 6 (xL 0) sEnd)))
 (kSeq (kCond (xT 6) kSkip
 (kExit 0))
 (kSeq (kBlock 1 (kSeq (kReg (sV (oIaddr 1 (xT 7) (xT 5)) (sV (oLoad (xL 0)) (sS 9 (xT 5) (sS 8 (xL 0) sEnd)))))
 (kRegC (fun k => (sV (oLenS (xT 8)) (sV (oBin .gtr .no (xL 0) (ki 4096)) (sG (xL 0) false (sV (oMov (xT 9))) (sG (xL 1) false (sV (oBin .gtr .no (xL 0) (ki 0))) (sG (xL 2) false (sV (oMov (xL 0))) (sG (xL 0) true (sV (oMov (xT 0))) (sG (xL 1) true (sV (oMov (xT 9))) (sG (xL 2) true (sV (oBin .sub .no (xL 0) (ki 1))) (sG (xL 3) true (sV (oIaddr 1 (xL 2) (xL 0))) (sG (xL 4) true (sV (oLoad (xL 0))) (sG (xL 5) true (sV (oMov (xT 8))) (sG (xL 6) true (sV (oBin .geq .no (xL 1) (xL 0))) (sG (xL 10) false (sV (oPick (xL 7) (xL 0) (xK (bool false)))) (sV (oPick (xL 11) (xK (bool true)) (xL 0)) k))))))))))))))) (xL 0) (kSeq (kReg (sS 2 (xK nils) (sS 3 (ki 1) sEnd)))
 kRet)
 kSkip)))
 (kReg (sV (oBin .add .no (xT 5) (ki 1)) (sS 5 (xL 0) sEnd)))))))))
 (kSeq (kReg (sV (oLenL (xT 0)) (sV (oConv .u64 (xL 0)) (sC (cFn 83) [(xK nils), (xL 0)] (sS 20 (xL 0) sEnd)))))
 (kSeq (kSeq (kReg (sS 10 (ki 0) sEnd))
 (kBlock 2 (kLoop (kSeq (kRegC (fun k => (sV (oLenL (xT 0)) (sV (oBin .lss .no (xT 10) (xL 0)) k))) (xL 0) kSkip
 (kExit 2))
 (kSeq (kBlock 3 (kSeq (kReg (sV (oBin .add .no (xT 10) (ki 16)) (sV (oLenL (xT 0)) (sV (oMm false (xL 1) [(xL 0)]) (sS 11 (xL 0) sEnd)))))
 (kSeq (kReg (sV (oIaddr 1 (xT 0) (xT 10)) (sV (oLoad (xL 0)) (sC (cFn 213) [(xK nils), (xL 0)] (sS 14 (xL 0) sEnd)))))
 (kSeq (kSeq (kReg (sV (oBin .add .no (xT 10) (ki 1)) (sS 12 (xL 0) sEnd)))
 (kBlock 4 (kLoop (kSeq (kRegC (fun k => (sV (oBin .lss .no (xT 12) (xT 11)) k)) (xL 0) kSkip
 (kExit 4))
 (kSeq (kBlock 5 (kSeq (kDraw [(.v (oMov (xT 0)), none), (.v (oMov (xT 12)), none), (.v (oBin .sub .no (xL 0) (ki 1)), none), (.v (oIaddr 1 (xL 2) (xL 0)), none), (.v (oLoad (xL 0)), none), (.v (oMov (xT 0)), none), (.v (oMov (xT 12)), none), (.v (oIaddr 1 (xL 1) (xL 0)), none), (.v (oLoad (xL 0)), none), (.c (cFn 244) [(xL 4), (xL 0)], none), (.v (oMov (xL 0)), none)] 0 [none, none, none, none, none, none, none, none, none, none, none, none, none, (some 0), none, none, none, none, none, none, none] [])
 (kDraw [(.v (oMov (xT 14)), none), (.v (oMov (xT 13)), none), (.v (oConv .u64 (xL 0)), none), (.c (cFn 83) [(xL 2), (xL 0)], none), (.v (oMov (xT 0)), none), (.v (oMov (xT 12)), none), (.v (oIaddr 1 (xL 1) (xL 0)), none), (.v (oLoad (xL 0)), none), (.v (oMov (xT 13)), none), (.v (oSlcs (xL 1) (some (xL 0)) none), none), (.c (cFn 213) [(xL 6), (xL 0)], none), (.v (oMov (xL 0)), none)] 0 [none, none, none, none, none, none, none, none, none, none, none, none, none, none, (some 0), none, none, none, none, none, none] [(4, 8)])))
 (kReg (sV (oMov (xT 12)) (sV (oBin .add .no (xL 0) (ki 1)) (sS 12 (xL 0) sEnd)))))))))
 (kSeq (kSeq (kReg (sV (oSlc 1 (xT 1) (some (xT 10)) (some (xT 11)) none) (sS 18 (xL 0) (sV (oLenL (xT 18)) (sS 15 (xL 0) (sS 16 (ki 0) sEnd))))))
 (kBlock 6 (kLoop (kSeq (kReg (sV (oBin .lss .no (xT 16) (xT 15)) (sS 17 (xL 0) sEnd)))
 (kSeq (kCond (xT 17) kSkip
 (kExit 6))
 (kSeq (kBlock 7 (kSeq (kReg (sV (oIaddr 1 (xT 18) (xT 16)) (sV (oLoad (xL 0)) (sS 19 (xL 0) sEnd))))
 (kReg (sV (oMov (xT 14)) (sC (cFn 83) [(xL 0), (xT 19)] (sS 14 (xL 0) sEnd))))))
 (kReg (sV (oBin .add .no (xT 16) (ki 1)) (sS 16 (xL 0) sEnd)))))))))
 (kReg (sV (oMov (xT 20)) (sH (oApp 5 1 (xL 0) (xT 14)) (sS 20 (xL 0) sEnd)))))))))
 (kReg (sV (oMov (xT 10)) (sV (oBin .add .no (xL 0) (ki 16)) (sS 10 (xL 0) sEnd)))))))))
 (kSeq (kReg (sC (cFn 27) [(xT 20)] (sS 2 (xL 0) (sS 3 (ki 0) sEnd))))
 kRet))))))
theorem t211 : FF d211 Tryz.f211 a211 [(.t 2), (.t 3)] := ff Tryz.func211 (by kernel_rfl)
def x211 : XFn := .go a211 2 pd19 [(.t 2), (.t 3)]
def d212 : FD := ⟨212, 1, [2, 3, 12, 13, 14, 11, 6, 4]⟩
def a212 : CodeF := (kSeq (kReg (sS 1 (xK nils) (sS 2 (xK (bool false)) sEnd)))
 (kSeq (kReg (sV (oLenL (xT 0)) (sV (oMm false (xL 0) [(ki 16384)]) (sH (oMksl 137 1 [nils] (ki 0) (xL 0)) (sS 8 (xL 0) sEnd)))))
 (kSeq (kSeq (kReg (sS 6 (xT 0) (sV (oLenL (xT 6)) (sS 3 (xL 0) (sS 4 (ki 0) sEnd)))))
 (kBlock 0 (kLoop (kSeq (kReg (sV (oBin .lss .no (xT 4) (xT 3)) (sS 5 (xL 0) sEnd)))
 (kSeq (kCond (xT 5) kSkip
 (kExit 0))
 (kSeq (kBlock 1 (kSeq (kReg (sV (oIaddr 1 (xT 6) (xT 4)) (sV (oLoad (xL 0)) (sS 7 (xL 0) sEnd))))
 (kSeq (kRegC (fun k => (sV (oLenL (xT 0)) (sV (oBin .gtr .no (xL 0) (ki 16384)) (sG (xL 0) false (sV (oMov (xT 7))) (sG (xL 1) false (sV (oLenL (xL 0))) (sG (xL 2) false (sV (oBin .gtr .no (xL 0) (ki 64))) (sV (oPick (xL 3) (xK (bool true)) (xL 0)) k))))))) (xL 0) (kSeq (kReg (sS 1 (xK nils) (sS 2 (xK (bool false)) sEnd)))
 kRet)
 kSkip)
 (kSeq (kReg (sV (oMov (xT 7)) (sC (cFn 255) [(xL 0)] (sS 7 (xL 0) sEnd))))
 (kSeq (kReg (sC (cFn 182) [(xT 7)] sEnd))
 (kReg (sV (oMov (xT 8)) (sH (oBsl 137 1 1 [nils] [(0, 1, (xT 7))]) (sH (oApp 137 1 (xL 1) (xL 0)) (sS 8 (xL 0) sEnd))))))))))
 (kReg (sV (oBin .add .no (xT 4) (ki 1)) (sS 4 (xL 0) sEnd)))))))))
 (kSeq (kReg (sS 1 (xT 8) (sS 2 (xK (bool true)) sEnd)))
 kRet))))
theorem t212 : FF d212 Tryz.f212 a212 [(.t 1), (.t 2)] := ff Tryz.func212 (by kernel_rfl)
def x212 : XFn := .go a212 1 pd8 [(.t 1), (.t 2)]
def d213 : FD := ⟨213, 2, [4]⟩
def a213 : CodeF := (kSeq (kReg (sS 2 (xK nils) sEnd))
 (kSeq (kReg (sV (oLenS (xT 1)) (sV (oConv .u64 (xL 0)) (sC (cFn 83) [(xT 0), (xL 0)] (sH (oApps 5 (xL 0) (xT 1)) (sC (cFn 27) [(xL 0)] (sS 2 (xL 0) sEnd)))))))
 kRet))
theorem t213 : FF d213 Tryz.f213 a213 [(.t 2)] := ff Tryz.func213 (by kernel_rfl)
def x213 : XFn := .go a213 2 pd1 [(.t 2)]
def d214 : FD := ⟨214, 2, [4, 5, 6, 8, 7, 9]⟩
def a214 : CodeF := (kSeq (kReg (sS 2 (ki 0) (sS 3 (xK (bool false)) sEnd)))
 (kSeq (kReg (sV (oLenL (xT 0)) (sS 4 (xL 0) sEnd)))
 (kSeq (kReg (sS 6 (ki 0) (sS 5 (xT 4) sEnd)))
 (kSeq (kBlock 0 (kLoop (kSeq (kRegC (fun k => (sV (oBin .lss .no (xT 6) (xT 5)) k)) (xL 0) kSkip
 (kExit 0))
 (kBlock 1 (kSeq (kReg (sV (oBin .add .no (xT 6) (xT 5)) (sV (oConv .u64 (xL 0)) (sV (oBin .shr .no (xL 0) (xK (int .u64 (.ofNat 1)))) (sV (oConv .i64 (xL 0)) (sS 7 (xL 0) sEnd))))))
 (kRegC (fun k => (sV (oIaddr 1 (xT 0) (xT 7)) (sV (oLoad (xL 0)) (sC (cFn 256) [(xL 0), (xT 1)] k)))) (xL 0) (kReg (sV (oBin .add .no (xT 7) (ki 1)) (sS 6 (xL 0) sEnd)))
 (kReg (sS 5 (xT 7) sEnd))))))))
 (kSeq (kReg (sV (oBin .lss .no (xT 6) (xT 4)) (sG (xL 0) true (sV (oMov (xT 0))) (sG (xL 1) true (sV (oMov (xT 6))) (sG (xL 2) true (sV (oIaddr 1 (xL 1) (xL 0))) (sG (xL 3) true (sV (oLoad (xL 0))) (sG (xL 4) true (sV (oMov (xT 1))) (sG (xL 5) true (sV (oBin .eql .no (xL 1) (xL 0))) (sG (xL 6) true (sV (oMov (xL 0))) (sG (xL 0) false (sV (oMov (xT 0))) (sG (xL 1) false (sV (oMov (xT 6))) (sG (xL 2) false (sV (oIaddr 1 (xL 1) (xL 0))) (sG (xL 3) false (sV (oLoad (xL 0))) (sG (xL 4) false (sC (cFn 257) [(xL 0)]) (sG (xL 5) false (sV (oMov (xL 0))) (sG (xL 0) true (sV (oMov (xT 1))) (sG (xL 1) true (sC (cFn 257) [(xL 0)]) (sG (xL 8) false (sV (oPick (xL 2) (xL 0) (xK (bool false)))) (sG (xL 16) true (sV (oPick (xL 9) (xK (bool true)) (xL 0))) (sV (oPick (xL 17) (xL 0) (xK (bool false))) (sS 2 (xT 6) (sS 3 (xL 0) sEnd))))))))))))))))))))))
 kRet)))))
theorem t214 : FF d214 Tryz.f214 a214 [(.t 2), (.t 3)] := ff Tryz.func214 (by kernel_rfl)
def x214 : XFn := .go a214 2 pd6 [(.t 2), (.t 3)]
def d215 : FD := ⟨215, 1, [2, 19, 20, 21, 18, 8, 7, 4, 5, 6, 3]⟩
def a215 : CodeF := (kSeq (kReg (sS 1 (xK nils) sEnd))
 (kSeq (kReg (sV (oLenL (xT 0)) (sV (oConv .u64 (xL 0)) (sC (cFn 83) [(xK nils), (xL 0)] (sS 11 (xL 0) sEnd)))))
 (kSeq (kReg (sV (oLenL (xT 0)) (sV (oBin .add .no (xL 0) (ki 7)) (sV (oBin .quo .no (xL 0) (ki 8)) (sH (oMksl 5 1 [(int .u8 (.ofNat 0))] (xL 0) (xL 0)) (sS 8 (xL 0) sEnd))))))
 (kSeq (kReg (sS 9 (xK nils) (sS 10 (xK nils) sEnd)))
 (kSeq (kSeq (kReg (sS 5 (xT 0) (sV (oLenL (xT 5)) (sS 2 (xL 0) (sS 3 (ki 0) sEnd)))))
 (kBlock 0 (kLoop (kSeq (kReg (sV (oBin .lss .no (xT 3) (xT 2)) (sS 4 (xL 0) sEnd)))
 (kSeq (kCond (xT 4) kSkip
 (kExit 0))
 (kSeq (kBlock 1 (kSeq (kReg (sV (oIaddr 1 (xT 5) (xT 3)) (sV (oLoad (xL 0)) (sS 7 (xT 3) (sS 6 (xL 0) sEnd)))))
 (kRegC (fun k => (sV (oLenL (xT 6)) (sV (oBin .gtr .no (xL 0) (ki 0)) k))) (xL 0) (kSeq (kDraw [(.v (oMov (xT 8)), none), (.v (oMov (xT 7)), none), (.v (oBin .quo .no (xL 0) (ki 8)), none), (.v (oIaddr 1 (xL 2) (xL 0)), none), (.v (oLoad (xL 0)), none), (.v (oMov (xT 7)), none), (.v (oBin .rem .no (xL 0) (ki 8)), none), (.v (oBin .shl .no (xK (int .u8 (.ofNat 1))) (xL 0)), none), (.v (oBin .or .no (xL 3) (xL 0)), none), (.v (oIaddr 1 (xL 8) (xL 6)), none), (.h (oStore 1 (xL 0) (xL 1)), none)] 0 [none, none, none, none, none, none, none, none, none, none, none, none] [])
 (kSeq (kReg (sV (oMov (xT 9)) (sV (oLenL (xT 6)) (sV (oBin .sub .no (xL 0) (ki 1)) (sH (oBsl 2 1 1 [(int .i64 (.ofNat 0))] [(0, 1, (xL 0))]) (sH (oApp 2 1 (xL 3) (xL 0)) (sS 9 (xL 0) sEnd)))))))
 (kReg (sV (oMov (xT 10)) (sH (oApp 2 1 (xL 0) (xT 6)) (sS 10 (xL 0) sEnd))))))
 kSkip)))
 (kReg (sV (oBin .add .no (xT 3) (ki 1)) (sS 3 (xL 0) sEnd)))))))))
 (kSeq (kReg (sV (oMov (xT 11)) (sH (oApp 5 1 (xL 0) (xT 8)) (sS 11 (xL 0) sEnd))))
 (kSeq (kReg (sV (oMov (xT 11)) (sC (cFn 84) [(xT 9)] (sH (oApp 5 1 (xL 1) (xL 0)) (sS 11 (xL 0) sEnd)))))
 (kSeq (kReg (sC (cFn 84) [(xT 10)] (sH (oApp 5 1 (xT 11) (xL 0)) (sS 1 (xL 0) sEnd))))
 kRet))))))))
theorem t215 : FF d215 Tryz.f215 a215 [(.t 1)] := ff Tryz.func215 (by kernel_rfl)
def x215 : XFn := .go a215 1 pd11 [(.t 1)]
def d216 : FD := ⟨216, 1, [2, 3, 12, 13, 14, 11, 6, 4]⟩
def a216 : CodeF := (kSeq (kReg (sS 1 (xK nils) (sS 2 (xK (bool false)) sEnd)))
 (kSeq (kReg (sV (oLenL (xT 0)) (sV (oMm false (xL 0) [(ki 16384)]) (sH (oMksl 63 1 [nils] (ki 0) (xL 0)) (sS 8 (xL 0) sEnd)))))
 (kSeq (kSeq (kReg (sS 6 (xT 0) (sV (oLenL (xT 6)) (sS 3 (xL 0) (sS 4 (ki 0) sEnd)))))
 (kBlock 0 (kLoop (kSeq (kReg (sV (oBin .lss .no (xT 4) (xT 3)) (sS 5 (xL 0) sEnd)))
 (kSeq (kCond (xT 5) kSkip
 (kExit 0))
 (kSeq (kBlock 1 (kSeq (kReg (sV (oIaddr 1 (xT 6) (xT 4)) (sV (oLoad (xL 0)) (sS 7 (xL 0) sEnd))))
 (kSeq (kRegC (fun k => (sV (oLenL (xT 0)) (sV (oBin .gtr .no (xL 0) (ki 16384)) (sG (xL 0) false (sV (oMov (xT 7))) (sG (xL 1) false (sV (oLenL (xL 0))) (sG (xL 2) false (sV (oBin .gtr .no (xL 0) (ki 64))) (sV (oPick (xL 3) (xK (bool true)) (xL 0)) k))))))) (xL 0) (kSeq (kReg (sS 1 (xK nils) (sS 2 (xK (bool false)) sEnd)))
 kRet)
 kSkip)
 (kSeq (kReg (sV (oMov (xT 7)) (sC (cFn 111) [(xL 0)] (sS 7 (xL 0) sEnd))))
 (kSeq (kReg (sC (cFn 184) [(xT 7)] sEnd))
 (kReg (sV (oMov (xT 8)) (sH (oBsl 63 1 1 [nils] [(0, 1, (xT 7))]) (sH (oApp 63 1 (xL 1) (xL 0)) (sS 8 (xL 0) sEnd))))))))))
 (kReg (sV (oBin .add .no (xT 4) (ki 1)) (sS 4 (xL 0) sEnd)))))))))
 (kSeq (kReg (sS 1 (xT 8) (sS 2 (xK (bool true)) sEnd)))
 kRet))))
theorem t216 : FF d216 Tryz.f216 a216 [(.t 1), (.t 2)] := ff Tryz.func216 (by kernel_rfl)
def x216 : XFn := .go a216 1 pd8 [(.t 1), (.t 2)]
def d217 : FD := ⟨217, 2, [4, 28, 29, 30, 27, 7, 5, 41, 42, 43, 40, 9, 10, 11, 12, 13, 14]⟩
def a217 : CodeF := (kSeq (kReg (sS 2 (xK nils) sEnd))
 (kSeq (kRegC (fun k => (sV (oLenL (xT 1)) (sV (oBin .leq .no (xL 0) (ki 8)) k))) (xL 0) (kSeq (kReg (sC (cFn 259) [(ki 0)] (sC (cFn 258) [(xT 1), (xL 0)] sEnd)))
 (kSeq (kReg (sH (oBsl 5 1 1 [(int .u8 (.ofNat 0))] [(0, 1, (xK (int .u8 (.ofNat 0))))]) (sV (oLenL (xT 1)) (sV (oConv .u64 (xL 0)) (sC (cFn 83) [(xK nils), (xL 0)] (sH (oApp 5 1 (xL 3) (xL 0)) (sS 8 (xL 0) sEnd)))))))
 (kSeq (kSeq (kReg (sS 6 (xT 1) (sV (oLenL (xT 6)) (sS 3 (xL 0) (sS 4 (ki 0) sEnd)))))
 (kBlock 0 (kLoop (kSeq (kReg (sV (oBin .lss .no (xT 4) (xT 3)) (sS 5 (xL 0) sEnd)))
 (kSeq (kCond (xT 5) kSkip
 (kExit 0))
 (kSeq (kBlock 1 (kSeq (kReg (sV (oIaddr 2 (xT 6) (xT 4)) (sV (oLoadN 2 (xL 0)) (sH (oAlloc 242 2 [(int .i64 (.ofNat 0)), nils]) (sS 7 (xL 0) (sH (oStore 2 (xT 7) (xL 1)) sEnd))))))
 (kSeq (kReg (sV (oMov (xT 8)) (sV (oFaddr 0 (xT 7)) (sV (oLoad (xL 0)) (sV (oConv .u64 (xL 0)) (sC (cFn 83) [(xK nils), (xL 0)] (sH (oApp 5 1 (xL 4) (xL 0)) (sS 8 (xL 0) sEnd))))))))
 (kSeq (kReg (sV (oFaddr 1 (xT 7)) (sV (oLoad (xL 0)) (sS 12 (xL 0) (sV (oLenL (xT 12)) (sS 9 (xL 0) (sS 10 (ki 0) sEnd)))))))
 (kBlock 2 (kLoop (kSeq (kReg (sV (oBin .lss .no (xT 10) (xT 9)) (sS 11 (xL 0) sEnd)))
 (kSeq (kCond (xT 11) kSkip
 (kExit 2))
 (kSeq (kBlock 3 (kSeq (kReg (sV (oIaddr 1 (xT 12) (xT 10)) (sV (oLoad (xL 0)) (sS 13 (xL 0) sEnd))))
 (kReg (sV (oMov (xT 8)) (sC (cFn 163) [(xK nils), (xT 13)] (sH (oApp 5 1 (xL 1) (xL 0)) (sS 8 (xL 0) sEnd)))))))
 (kReg (sV (oBin .add .no (xT 10) (ki 1)) (sS 10 (xL 0) sEnd))))))))))))
 (kReg (sV (oBin .add .no (xT 4) (ki 1)) (sS 4 (xL 0) sEnd)))))))))
 (kSeq (kReg (sS 2 (xT 8) sEnd))
 kRet))))
 kSkip)
 (kSeq (kReg (sC (cFn 260) [(xT 0), (xT 1)] (sS 14 (xL 0) sEnd)))
 (kSeq (kReg (sC (cFn 259) [(xT 14)] (sC (cFn 258) [(xT 1), (xL 0)] sEnd)))
 (kSeq (kReg (sV (oLenL (xT 1)) (sV (oBin .add .no (xL 0) (ki 1)) (sV (oBin .quo .no (xL 0) (ki 2)) (sS 15 (xL 0) sEnd)))))
 (kSeq (kReg (sV (oIaddr 2 (xT 1) (xT 15)) (sV (oFaddr 1 (xL 0)) (sV (oLoad (xL 0)) (sV (oIaddr 1 (xL 0) (xT 14)) (sV (oLoad (xL 0)) (sS 16 (xL 0) sEnd)))))))
 (kSeq (kReg (sV (oSlc 2 (xT 1) none (some (xT 15)) none) (sC (cFn 217) [(xT 0), (xL 0)] (sS 17 (xL 0) sEnd))))
 (kSeq (kReg (sH (oBsl 5 1 1 [(int .u8 (.ofNat 0))] [(0, 1, (xK (int .u8 (.ofNat 1))))]) (sV (oConv .u64 (xT 14)) (sC (cFn 83) [(xL 1), (xL 0)] (sC (cFn 163) [(xL 0), (xT 16)] (sS 18 (xL 0) sEnd))))))
 (kSeq (kReg (sV (oMov (xT 18)) (sV (oLenL (xT 17)) (sV (oConv .u64 (xL 0)) (sC (cFn 83) [(xK nils), (xL 0)] (sH (oApp 5 1 (xL 3) (xL 0)) (sS 18 (xL 0) sEnd)))))))
 (kSeq (kDraw [(.v (oMov (xT 18)), none), (.v (oMov (xT 17)), none), (.h (oApp 5 1 (xL 1) (xL 0)), none), (.v (oMov (xT 0)), none), (.v (oMov (xT 1)), none), (.v (oMov (xT 15)), none), (.v (oSlc 2 (xL 1) (some (xL 0)) none none), none), (.c (cFn 217) [(xL 3), (xL 0)], none), (.h (oApp 5 1 (xL 5) (xL 0)), none), (.v (oMov (xL 0)), none)] 0 [none, none, (some 0), none, none, none, none, none, none, none, none, none, none, none, none, none, none, none, none] [])
 kRet))))))))))
theorem t217 : FF d217 Tryz.f217 a217 [(.t 2)] := ff Tryz.func217 (by kernel_rfl)
def x217 : XFn := .go a217 2 pd17 [(.t 2)]
def d218 : FD := ⟨218, 1, [2]⟩
def a218 : CodeF := (kSeq (kReg (sS 1 (xK nils) sEnd))
 (kSeq (kRegC (fun k => (sV (oBin .eql .slice (xT 0) (xK nils)) k)) (xL 0) (kSeq (kReg (sS 1 (xK nils) sEnd))
 kRet)
 kSkip)
 (kSeq (kReg (sH (oBsl 242 2 0 [(int .i64 (.ofNat 0)), nils] []) (sH (oApp 242 2 (xL 0) (xT 0)) (sS 1 (xL 0) sEnd))))
 kRet)))
theorem t218 : FF d218 Tryz.f218 a218 [(.t 1)] := ff Tryz.func218 (by kernel_rfl)
def x218 : XFn := .go a218 1 pd1 [(.t 1)]
def d219 : FD := ⟨219, 2, [4]⟩
def a219 : CodeF := (kSeq (kReg (sS 2 (xK nils) sEnd))
 (kSeq (kRegC (fun k => (sV (oBin .lss .no (xT 1) (ki 0)) k)) (xL 0) (kReg (sV (oMkif 9 (xK (str [99, 97, 110, 110, 111, 116, 32, 98, 101, 32, 110, 101, 103, 97, 116, 105, 118, 101]))) (sPan (xL 0))))
 kSkip)
 (kSeq (kSeq (kReg (sV (oMov (xT 1)) (sV (oCap (xT 0)) (sV (oLenL (xT 0)) (sV (oBin .sub .no (xL 1) (xL 0)) (sV (oBin .sub .no (xL 3) (xL 0)) (sS 1 (xL 0) sEnd)))))))
 (kRegC (fun k => (sV (oBin .gtr .no (xT 1) (ki 0)) k)) (xL 0) (kReg (sV (oMov (xT 0)) (sV (oMov (xT 0)) (sV (oCap (xL 0)) (sV (oSlc 1 (xL 2) none (some (xL 0)) none) (sH (oAppm 5 1 [(int .u8 (.ofNat 0))] (xL 0) (xT 1)) (sV (oMov (xT 0)) (sV (oLenL (xL 0)) (sV (oSlc 1 (xL 2) none (some (xL 0)) none) (sS 0 (xL 0) sEnd))))))))))
 kSkip))
 (kSeq (kReg (sS 2 (xT 0) sEnd))
 kRet))))
theorem t219 : FF d219 Tryz.f219 a219 [(.t 2)] := ff Tryz.func219 (by kernel_rfl)
def x219 : XFn := .go a219 2 pd1 [(.t 2)]
def d220 : FD := ⟨220, 2, [4, 5, 7, 6]⟩
def a220 : CodeF := (kSeq (kReg (sS 2 (xK (str [])) sEnd))
 (kSeq (kReg (sS 3 (xK (str [])) sEnd))
 (kSeq (kRegC (fun k => (sV (oBin .eql .ptr (xT 0) (xK nilptr)) (sG (xL 0) false (sV (oMov (xT 0))) (sG (xL 1) false (sV (oNilc (xL 0))) (sG (xL 2) false (sV (oFaddr 2 (xL 0))) (sG (xL 3) false (sV (oLoad (xL 0))) (sG (xL 4) false (sV (oBin .neq .no (xL 0) (ki 0))) (sV (oPick (xL 5) (xK (bool true)) (xL 0)) k)))))))) (xL 0) (kSeq (kReg (sS 2 (xT 3) sEnd))
 kRet)
 kSkip)
 (kSeq (kDraw [(.v (oMov (xT 1)), none), (.v (oMov (xT 0)), none), (.v (oNilc (xL 0)), none), (.v (oFaddr 0 (xL 0)), none), (.v (oLoad (xL 0)), none), (.v (oMov (xT 0)), none), (.v (oNilc (xL 0)), none), (.v (oFaddr 1 (xL 0)), none), (.v (oLoad (xL 0)), none), (.v (oSlc 1 (xL 4) (some (xL 0)) none none), none), (.c (cVal (xL 9)) [(xL 0)], none), (.v (oMov (xL 0)), none), (.v (oExt 0 (xL 0)), none), (.v (oExt 1 (xL 1)), none), (.v (oMov (xL 1)), none), (.v (oMov (xL 1)), none)] 0 [none, none, none, none, (some 0), (some 1)] [])
 (kSeq (kRegC (fun k => (sV (oBin .lss .no (xT 4) (ki 0)) k)) (xL 0) (kSeq (kReg (sV (oNilc (xT 0)) (sV (oFaddr 2 (xL 0)) (sH (oStore 1 (xL 0) (ki 20)) sEnd))))
 (kSeq (kReg (sS 2 (xT 3) sEnd))
 kRet))
 kSkip)
 (kSeq (kReg (sV (oNilc (xT 0)) (sV (oFaddr 1 (xL 0)) (sV (oLoad (xL 0)) (sV (oBin .add .no (xL 0) (xT 4)) (sV (oNilc (xT 0)) (sV (oFaddr 1 (xL 0)) (sH (oStore 1 (xL 0) (xL 2)) sEnd))))))))
 (kSeq (kReg (sS 2 (xT 5) sEnd))
 kRet)))))))
theorem t220 : FF d220 Tryz.f220 a220 [(.t 2)] := ff Tryz.func220 (by kernel_rfl)
def x220 : XFn := .go a220 2 pd4 [(.t 2)]
def d221 : FD := ⟨221, 3, [4, 5, 7, 6]⟩
def a221 : CodeF := (kSeq (kReg (sS 3 (xK (str [])) (sS 4 (ki 0) sEnd)))
 (kSeq (kReg (sV (oLoad (xT 1)) (sC (cFn 136) [(xL 0), (xT 0)] (sV (oExt 0 (xL 0)) (sV (oExt 1 (xL 1)) (sS 6 (xL 1) (sS 5 (xL 0) sEnd)))))))
 (kSeq (kRegC (fun k => (sV (oBin .lss .no (xT 5) (ki 0)) (sG (xL 0) false (sV (oLoad (xT 2))) (sG (xL 1) false (sV (oBin .lss .no (xL 0) (ki 0))) (sV (oPick (xL 2) (xK (bool true)) (xL 0)) (sG (xL 0) false (sV (oMov (xT 6))) (sG (xL 1) false (sV (oLoad (xT 2))) (sG (xL 2) false (sV (oConv .u64 (xL 0))) (sG (xL 3) false (sV (oBin .gtr .no (xL 2) (xL 0))) (sV (oPick (xL 4) (xK (bool true)) (xL 0)) (sG (xL 0) false (sV (oMov (xT 6))) (sG (xL 1) false (sV (oMov (xT 0))) (sG (xL 2) false (sV (oLenL (xL 0))) (sG (xL 3) false (sV (oMov (xT 5))) (sG (xL 4) false (sV (oBin .sub .no (xL 1) (xL 0))) (sG (xL 5) false (sV (oConv .u64 (xL 0))) (sG (xL 6) false (sV (oBin .gtr .no (xL 5) (xL 0))) (sV (oPick (xL 7) (xK (bool true)) (xL 0)) k)))))))))))))))))) (xL 0) (kSeq (kReg (sS 3 (xK (str [])) (sS 4 (xK (int .i64 (.negSucc 0))) sEnd)))
 kRet)
 kSkip)
 (kSeq (kReg (sV (oConv .i64 (xT 6)) (sV (oBin .add .no (xT 5) (xL 0)) (sV (oSlc 1 (xT 0) (some (xT 5)) (some (xL 0)) none) (sV (oB2s (xL 0)) (sV (oConv .i64 (xT 6)) (sV (oBin .add .no (xT 5) (xL 0)) (sS 3 (xL 2) (sS 4 (xL 0) sEnd)))))))))
 kRet))))
theorem t221 : FF d221 Tryz.f221 a221 [(.t 3), (.t 4)] := ff Tryz.func221 (by kernel_rfl)
def x221 : XFn := .go a221 3 pd4 [(.t 3), (.t 4)]
def d222 : FD := ⟨222, 1, [2, 1]⟩
def a222 : CodeF := (kSeq (kReg (sH (oBox 314 4 (xT 0)) (sS 2 (xL 0) (sS 1 (xK nils) sEnd))))
 (kSeq (kReg (sV (oFaddr 0 (xT 2)) (sV (oLoad (xL 0)) (sC (cFn 261) [(xL 0)] (sV (oFaddr 0 (xT 2)) (sH (oStore 1 (xL 0) (xL 1)) sEnd))))))
 (kSeq (kReg (sV (oLoadN 4 (xT 2)) (sH (oBsl 314 4 1 [(str []), (int .i64 (.ofNat 0)), (int .i64 (.ofNat 0)), (int .i64 (.ofNat 0))] [(0, 4, (xL 0))]) (sS 1 (xL 0) sEnd))))
 kRet)))
theorem t222 : FF d222 Tryz.f222 a222 [(.t 1)] := ff Tryz.func222 (by kernel_rfl)
def x222 : XFn := .go a222 1 pd2 [(.t 1)]
def d223 : FD := ⟨223, 1, [2, 1]⟩
def a223 : CodeF := (kSeq (kReg (sH (oBox 314 4 (xT 0)) (sS 2 (xL 0) (sS 1 (xK nils) sEnd))))
 (kSeq (kRegC (fun k => (sV (oFaddr 0 (xT 2)) (sV (oLoad (xL 0)) (sC (cFn 262) [(xL 0)] k)))) (xL 0) (kSeq (kReg (sS 1 (xK nils) sEnd))
 kRet)
 kSkip)
 (kSeq (kReg (sV (oLoadN 4 (xT 2)) (sH (oBsl 314 4 1 [(str []), (int .i64 (.ofNat 0)), (int .i64 (.ofNat 0)), (int .i64 (.ofNat 0))] [(0, 4, (xL 0))]) (sS 1 (xL 0) sEnd))))
 kRet)))
theorem t223 : FF d223 Tryz.f223 a223 [(.t 1)] := ff Tryz.func223 (by kernel_rfl)
def x223 : XFn := .go a223 1 pd2 [(.t 1)]
def d224 : FD := ⟨224, 1, [2, 1]⟩
def a224 : CodeF := (kSeq (kReg (sH (oBox 3 1 (xT 0)) (sS 2 (xL 0) (sS 1 (xK nilfunc) sEnd))))
 (kSeq (kReg (sV (oMkfn 263 [] [(xT 2)]) (sS 1 (xL 0) sEnd)))
 kRet))
theorem t224 : FF d224 Tryz.f224 a224 [(.t 1)] := ff Tryz.func224 (by kernel_rfl)
def x224 : XFn := .go a224 1 pd2 [(.t 1)]
def d225 : FD := ⟨225, 1, [2, 1, 3]⟩
def a225 : CodeF := (kSeq (kReg (sH (oBox 314 4 (xT 0)) (sS 2 (xL 0) (sS 1 (xK nils) sEnd))))
 (kSeq (kSeq (kReg (sV (oFaddr 0 (xT 2)) (sV (oLoad (xL 0)) (sC (cFn 264) [(xL 0)] (sS 3 (xL 0) sEnd)))))
 (kRegC (fun k => (sV (oLenL (xT 3)) (sV (oBin .gtr .no (xL 0) (ki 17)) k))) (xL 0) (kDraw [(.v (oFaddr 0 (xT 2)), none), (.v (oLoad (xL 0)), none), (.v (oMov (xT 3)), none), (.v (oIaddr 1 (xL 0) (ki 16)), none), (.v (oLoad (xL 0)), none), (.v (oSlcs (xL 3) none (some (xL 0))), none), (.v (oFaddr 0 (xT 2)), none), (.h (oStore 1 (xL 0) (xL 1)), none)] 0 [none, none, none, none] [])
 kSkip))
 (kSeq (kReg (sV (oLoadN 4 (xT 2)) (sH (oBsl 314 4 1 [(str []), (int .i64 (.ofNat 0)), (int .i64 (.ofNat 0)), (int .i64 (.ofNat 0))] [(0, 4, (xL 0))]) (sS 1 (xL 0) sEnd))))
 kRet)))
theorem t225 : FF d225 Tryz.f225 a225 [(.t 1)] := ff Tryz.func225 (by kernel_rfl)
def x225 : XFn := .go a225 1 pd3 [(.t 1)]
def d226 : FD := ⟨226, 1, [2, 1, 4, 13, 14, 15, 5, 6, 3]⟩
def a226 : CodeF := (kSeq (kReg (sH (oBox 314 4 (xT 0)) (sS 2 (xL 0) (sS 1 (xK nils) sEnd))))
 (kSeq (kReg (sH (oAlloc 419 2 [nilptr, nils]) (sS 9 (xL 0) sEnd)))
 (kSeq (kReg (sV (oFaddr 0 (xT 2)) (sV (oLoad (xL 0)) (sC (cFn 264) [(xL 0)] (sS 3 (xL 0) sEnd)))))
 (kSeq (kSeq (kReg (sV (oLenL (xT 3)) (sV (oBin .sub .no (xL 0) (ki 1)) (sS 4 (xL 0) (sS 5 (ki 0) sEnd)))))
 (kBlock 0 (kLoop (kSeq (kReg (sV (oBin .lss .no (xT 5) (xT 4)) (sS 6 (xL 0) sEnd)))
 (kSeq (kCond (xT 6) kSkip
 (kExit 0))
 (kSeq (kBlock 1 (kSeq (kReg (sS 7 (xT 5) sEnd))
 (kSeq (kDraw [(.v (oFaddr 0 (xT 2)), none), (.v (oLoad (xL 0)), none), (.v (oMov (xT 3)), none), (.v (oMov (xT 7)), none), (.v (oIaddr 1 (xL 1) (xL 0)), none), (.v (oLoad (xL 0)), none), (.c (cFn 265) [(xL 4), (xL 0)], none), (.v (oMov (xL 0)), none), (.v (oExt 0 (xL 0)), none), (.v (oExt 1 (xL 1)), none), (.v (oMov (xL 1)), none), (.v (oMov (xL 1)), none)] 0 [none, none, none, none, none, none, none, none, (some 1), none] [])
 (kRegC (fun k => (sC (cFn 266) [(xT 8)] (sV (oUn .not (xL 0)) k))) (xL 0) (kDraw [(.v (oFaddr 0 (xT 2)), none), (.v (oLoad (xL 0)), none), (.v (oMov (xT 3)), none), (.v (oMov (xT 7)), none), (.v (oIaddr 1 (xL 1) (xL 0)), none), (.v (oLoad (xL 0)), none), (.v (oMov (xT 3)), none), (.v (oMov (xT 7)), none), (.v (oBin .add .no (xL 0) (ki 1)), none), (.v (oIaddr 1 (xL 2) (xL 0)), none), (.v (oLoad (xL 0)), none), (.v (oSlcs (xL 9) (some (xL 5)) (some (xL 0))), none), (.c (cFn 267) [(xT 9), (xL 0)], none)] 0 [none, none, none, none, none, none, none, none, none, none] [])
 kSkip))))
 (kReg (sV (oBin .add .no (xT 5) (ki 1)) (sS 5 (xL 0) sEnd)))))))))
 (kSeq (kReg (sC (cFn 268) [(xT 9)] (sV (oFaddr 0 (xT 2)) (sH (oStore 1 (xL 0) (xL 1)) sEnd))))
 (kSeq (kRegC (fun k => (sV (oFaddr 0 (xT 2)) (sV (oLoad (xL 0)) (sV (oBin .eql .no (xL 0) (xK (str []))) k)))) (xL 0) (kSeq (kReg (sS 1 (xK nils) sEnd))
 kRet)
 kSkip)
 (kSeq (kReg (sV (oLoadN 4 (xT 2)) (sH (oBsl 314 4 1 [(str []), (int .i64 (.ofNat 0)), (int .i64 (.ofNat 0)), (int .i64 (.ofNat 0))] [(0, 4, (xL 0))]) (sS 1 (xL 0) sEnd))))
 kRet)))))))
theorem t226 : FF d226 Tryz.f226 a226 [(.t 1)] := ff Tryz.func226 (by kernel_rfl)
def x226 : XFn := .go a226 1 pd9 [(.t 1)]
def d227 : FD := ⟨227, 2, [4, 7, 8, 9, 5]⟩
def a227 : CodeF := (kSeq (kReg (sS 2 (ki 0) sEnd))
 (kSeq (kSeq (kReg (sV (oLenL (xT 0)) (sS 3 (xL 0) (sS 4 (ki 0) sEnd))))
 (kBlock 0 (kLoop (kSeq (kReg (sV (oBin .lss .no (xT 4) (xT 3)) (sS 5 (xL 0) sEnd)))
 (kSeq (kCond (xT 5) kSkip
 (kExit 0))
 (kSeq (kBlock 1 (kSeq (kReg (sS 6 (xT 4) sEnd))
 (kRegC (fun k => (sV (oIaddr 1 (xT 0) (xT 6)) (sV (oLoad (xL 0)) (sV (oBin .eql .no (xT 1) (xL 0)) k)))) (xL 0) (kSeq (kReg (sS 2 (xT 6) sEnd))
 kRet)
 kSkip)))
 (kReg (sV (oBin .add .no (xT 4) (ki 1)) (sS 4 (xL 0) sEnd)))))))))
 (kSeq (kReg (sS 2 (xK (int .i64 (.negSucc 0))) sEnd))
 kRet)))
theorem t227 : FF d227 Tryz.f227 a227 [(.t 2)] := ff Tryz.func227 (by kernel_rfl)
def x227 : XFn := .go a227 2 pd5 [(.t 2)]
def d228 : FD := ⟨228, 1, [2]⟩
def a228 : CodeF := (kSeq (kReg (sS 1 (ki 0) sEnd))
 (kSeq (kRegC (fun k => (sV (oBin .eql .no (xT 0) (xK (int .u64 (.ofNat 0)))) k)) (xL 0) (kSeq (kReg (sS 1 (ki 64) sEnd))
 kRet)
 kSkip)
 (kSeq (kReg (sV (oUn .neg (xT 0)) (sV (oBin .and .no (xT 0) (xL 0)) (sV (oBin .mul .no (xL 0) (xK (int .u64 (.ofNat 285870213051353865)))) (sV (oBin .shr .no (xL 0) (xK (int .u64 (.ofNat 58)))) (sV (oIaddra 64 1 (xK (ptr 0 0)) (xL 0)) (sV (oLoad (xL 0)) (sV (oConv .i64 (xL 0)) (sS 1 (xL 0) sEnd)))))))))
 kRet)))
theorem t228 : FF d228 Tryz.f228 a228 [(.t 1)] := ff Tryz.func228 (by kernel_rfl)
def x228 : XFn := .go a228 1 pd1 [(.t 1)]
def d229 : FD := ⟨229, 2, [4, 12, 5, 29, 30, 31, 28, 8, 9, 10, 11, 6]⟩
def a229 : CodeF := (kSeq (kReg (sS 2 (xK nils) sEnd))
 (kSeq (kSeq (kReg (sS 3 (xT 0) sEnd))
 (kBlock 0 (kRegC (fun k => (sV (oBin .eql .no (xT 3) (ki 1)) k)) (xL 0) (kSeq (kReg (sC (cFn 269) [(xT 1)] (sS 2 (xL 0) sEnd)))
 kRet)
 (kRegC (fun k => (sV (oBin .eql .no (xT 3) (ki 2)) k)) (xL 0) (kSeq (kReg (sS 4 (xK (.func (.func 270) [] [])) sEnd))
 (kSeq (kReg (sC (cFn 272) [(xT 1), (xT 4), (xT 4)] (sS 2 (xL 0) sEnd)))
 kRet))
 (kRegC (fun k => (sV (oBin .eql .no (xT 3) (ki 3)) k)) (xL 0) (kSeq (kReg (sC (cFn 272) [(xT 1), (xK (.func (.func 273) [] [])), (xK (.func (.func 274) [] []))] (sS 2 (xL 0) sEnd)))
 kRet)
 kSkip)))))
 (kSeq (kReg (sS 13 (xK nils) sEnd))
 (kSeq (kSeq (kReg (sC (cFn 269) [(xT 1)] (sS 8 (xL 0) (sV (oLenL (xT 8)) (sS 5 (xL 0) (sS 6 (ki 0) sEnd))))))
 (kBlock 1 (kLoop (kSeq (kReg (sV (oBin .lss .no (xT 6) (xT 5)) (sS 7 (xL 0) sEnd)))
 (kSeq (kCond (xT 7) kSkip
 (kExit 1))
 (kSeq (kBlock 2 (kSeq (kReg (sV (oIaddr 4 (xT 8) (xT 6)) (sV (oLoadN 4 (xL 0)) (sH (oAlloc 314 4 [(str []), (int .i64 (.ofNat 0)), (int .i64 (.ofNat 0)), (int .i64 (.ofNat 0))]) (sS 9 (xL 0) (sH (oStore 4 (xT 9) (xL 1)) sEnd))))))
 (kSeq (kReg (sV (oFaddr 0 (xT 9)) (sV (oLoad (xL 0)) (sC (cFn 264) [(xL 0)] (sS 10 (xL 0) sEnd)))))
 (kSeq (kReg (sV (oLenL (xT 10)) (sV (oBin .sub .no (xL 0) (ki 1)) (sV (oMm false (ki 2) [(xL 0)]) (sS 11 (xL 0) sEnd)))))
 (kSeq (kReg (sS 12 (ki 0) sEnd))
 (kBlock 3 (kLoop (kSeq (kRegC (fun k => (sV (oBin .add .no (xT 12) (xT 11)) (sV (oLenL (xT 10)) (sV (oBin .lss .no (xL 1) (xL 0)) k)))) (xL 0) kSkip
 (kExit 3))
 (kSeq (kBlock 4 (kDraw [(.v (oMov (xT 13)), none), (.v (oFaddr 0 (xT 9)), none), (.v (oLoad (xL 0)), none), (.v (oMov (xT 10)), none), (.v (oMov (xT 12)), none), (.v (oIaddr 1 (xL 1) (xL 0)), none), (.v (oLoad (xL 0)), none), (.v (oMov (xT 10)), none), (.v (oMov (xT 12)), none), (.v (oMov (xT 11)), none), (.v (oBin .add .no (xL 1) (xL 0)), none), (.v (oIaddr 1 (xL 3) (xL 0)), none), (.v (oLoad (xL 0)), none), (.v (oSlcs (xL 10) (some (xL 6)) (some (xL 0))), none), (.v (oMov (xT 13)), none), (.v (oLenL (xL 0)), none), (.v (oFaddr 2 (xT 9)), none), (.v (oLoad (xL 0)), none), (.v (oMov (xT 10)), none), (.v (oMov (xT 12)), none), (.v (oIaddr 1 (xL 1) (xL 0)), none), (.v (oLoad (xL 0)), none), (.v (oBin .add .no (xL 4) (xL 0)), none), (.v (oFaddr 2 (xT 9)), none), (.v (oLoad (xL 0)), none), (.v (oMov (xT 10)), none), (.v (oMov (xT 12)), none), (.v (oMov (xT 11)), none), (.v (oBin .add .no (xL 1) (xL 0)), none), (.v (oIaddr 1 (xL 3) (xL 0)), none), (.v (oLoad (xL 0)), none), (.v (oBin .add .no (xL 6) (xL 0)), none), (.v (oBuild [(str []), (int .i64 (.ofNat 0)), (int .i64 (.ofNat 0)), (int .i64 (.ofNat 0))] [(0, 1, (xL 18)), (1, 1, (xL 16)), (2, 1, (xL 9)), (3, 1, (xL 0))]), none), (.h (oBsl 314 4 1 [(str []), (int .i64 (.ofNat 0)), (int .i64 (.ofNat 0)), (int .i64 (.ofNat 0))] [(0, 4, (xL 0))]), none), (.h (oApp 314 4 (xL 33) (xL 0)), none), (.v (oMov (xL 0)), none)] 0 [none, none, none, none, none, none, none, none, none, none, none, none, none, (some 0)] []))
 (kReg (sV (oMov (xT 12)) (sV (oBin .add .no (xL 0) (ki 1)) (sS 12 (xL 0) sEnd)))))))))))))
 (kReg (sV (oBin .add .no (xT 6) (ki 1)) (sS 6 (xL 0) sEnd)))))))))
 (kSeq (kReg (sS 2 (xT 13) sEnd))
 kRet)))))
theorem t229 : FF d229 Tryz.f229 a229 [(.t 2)] := ff Tryz.func229 (by kernel_rfl)
def x229 : XFn := .go a229 2 pd12 [(.t 2)]
def d230 : FD := ⟨230, 2, [4, 5, 6, 15, 16, 17, 14, 9, 7]⟩
def a230 : CodeF := (kSeq (kReg (sS 2 (xK nils) (sS 3 (ki 0) sEnd)))
 (kSeq (kReg (sC (cFn 174) [(xT 0)] (sS 4 (xL 0) sEnd)))
 (kSeq (kRegC (fun k => (sV (oBin .eql .func (xT 4) (xK nilfunc)) k)) (xL 0) (kSeq (kReg (sS 2 (xK nils) (sS 3 (ki 60) sEnd)))
 kRet)
 kSkip)
 (kSeq (kReg (sS 10 (xK nils) sEnd))
 (kSeq (kSeq (kReg (sS 8 (xT 1) (sV (oLenL (xT 8)) (sS 5 (xL 0) (sS 6 (ki 0) sEnd)))))
 (kBlock 0 (kLoop (kSeq (kReg (sV (oBin .lss .no (xT 6) (xT 5)) (sS 7 (xL 0) sEnd)))
 (kSeq (kCond (xT 7) kSkip
 (kExit 0))
 (kSeq (kBlock 1 (kSeq (kReg (sV (oIaddr 4 (xT 8) (xT 6)) (sV (oLoadN 4 (xL 0)) (sH (oAlloc 314 4 [(str []), (int .i64 (.ofNat 0)), (int .i64 (.ofNat 0)), (int .i64 (.ofNat 0))]) (sS 9 (xL 0) (sH (oStore 4 (xT 9) (xL 1)) sEnd))))))
 (kSeq (kReg (sV (oMov (xT 10)) (sV (oLoadN 4 (xT 9)) (sC (cVal (xT 4)) [(xL 0)] (sH (oApp 314 4 (xL 2) (xL 0)) (sS 10 (xL 0) sEnd))))))
 (kRegC (fun k => (sV (oLenL (xT 10)) (sV (oBin .gtr .no (xL 0) (ki 4096)) k))) (xL 0) (kSeq (kReg (sS 2 (xK nils) (sS 3 (ki 84) sEnd)))
 kRet)
 kSkip))))
 (kReg (sV (oBin .add .no (xT 6) (ki 1)) (sS 6 (xL 0) sEnd)))))))))
 (kSeq (kReg (sS 2 (xT 10) (sS 3 (ki 0) sEnd)))
 kRet))))))
theorem t230 : FF d230 Tryz.f230 a230 [(.t 2), (.t 3)] := ff Tryz.func230 (by kernel_rfl)
def x230 : XFn := .go a230 2 pd9 [(.t 2), (.t 3)]
def d231 : FD := ⟨231, 2, [4, 5]⟩
def a231 : CodeF := (kSeq (kReg (sS 2 (xK (str [])) (sS 3 (xK (bool false)) sEnd)))
 (kSeq (kReg (sC (cFn 275) [(xT 0), (xT 1)] (sV (oExt 0 (xL 0)) (sV (oExt 1 (xL 1)) (sS 2 (xL 1) (sS 3 (xL 0) sEnd))))))
 kRet))
theorem t231 : FF d231 Tryz.f231 a231 [(.t 2), (.t 3)] := ff Tryz.func231 (by kernel_rfl)
def x231 : XFn := .go a231 2 pd2 [(.t 2), (.t 3)]
def d232 : FD := ⟨232, 2, [4, 5, 6]⟩
def a232 : CodeF := (kSeq (kReg (sS 2 (xK (str [])) (sS 3 (xK (str [])) (sS 4 (xK (bool false)) sEnd))))
 (kSeq (kReg (sC (cFn 276) [(xT 0), (xT 1)] (sV (oExt 0 (xL 0)) (sV (oExt 1 (xL 1)) (sV (oExt 2 (xL 2)) (sS 2 (xL 2) (sS 3 (xL 1) (sS 4 (xL 0) sEnd))))))))
 kRet))
theorem t232 : FF d232 Tryz.f232 a232 [(.t 2), (.t 3), (.t 4)] := ff Tryz.func232 (by kernel_rfl)
def x232 : XFn := .go a232 2 pd3 [(.t 2), (.t 3), (.t 4)]
def d233 : FD := ⟨233, 3, [6]⟩
def a233 : CodeF := (kSeq (kReg (sS 3 (xK (bool false)) sEnd))
 (kSeq (kReg (sV (oLenS (xT 0)) (sV (oBin .geq .no (xL 0) (xT 1)) (sG (xL 0) true (sV (oMov (xT 0))) (sG (xL 1) true (sV (oLenS (xL 0))) (sG (xL 2) true (sV (oMov (xT 2))) (sG (xL 3) true (sV (oBin .leq .no (xL 1) (xL 0))) (sV (oPick (xL 4) (xL 0) (xK (bool false))) (sG (xL 0) true (sV (oMov (xT 0))) (sG (xL 1) true (sC (cFn 277) [(xL 0), (xK (.func (.func 278) [] []))]) (sG (xL 2) true (sV (oBin .lss .no (xL 0) (ki 0))) (sV (oPick (xL 3) (xL 0) (xK (bool false))) (sS 3 (xL 0) sEnd)))))))))))))
 kRet))
theorem t233 : FF d233 Tryz.f233 a233 [(.t 3)] := ff Tryz.func233 (by kernel_rfl)
def x233 : XFn := .go a233 3 pd1 [(.t 3)]
def d234 : FD := ⟨234, 2, [4, 11, 6, 5, 42, 43, 7, 8, 9, 10]⟩
def a234 : CodeF := (kSeq (kReg (sS 2 (xK (str [])) sEnd))
 (kSeq (kSeq (kReg (sS 3 (xT 1) sEnd))
 (kBlock 0 (kRegC (fun k => (sV (oBin .eql .no (xT 3) (ki 0)) k)) (xL 0) (kSeq (kReg (sS 2 (xK (str [])) sEnd))
 kRet)
 (kRegC (fun k => (sV (oBin .eql .no (xT 3) (ki 1)) k)) (xL 0) (kSeq (kReg (sS 2 (xT 0) sEnd))
 kRet)
 kSkip))))
 (kSeq (kRegC (fun k => (sV (oBin .lss .no (xT 1) (ki 0)) k)) (xL 0) (kReg (sV (oMkif 9 (xK (str [115, 116, 114, 105, 110, 103, 115, 58, 32, 110, 101, 103, 97, 116, 105, 118, 101, 32, 82, 101, 112, 101, 97, 116, 32, 99, 111, 117, 110, 116]))) (sPan (xL 0))))
 kSkip)
 (kSeq (kReg (sV (oLenS (xT 0)) (sV (oConv .u64 (xL 0)) (sV (oConv .u64 (xT 1)) (sC (cFn 35) [(xL 1), (xL 0)] (sV (oExt 0 (xL 0)) (sV (oExt 1 (xL 1)) (sS 5 (xL 1) (sS 4 (xL 0) sEnd)))))))))
 (kSeq (kRegC (fun k => (sV (oBin .gtr .no (xT 5) (xK (int .u64 (.ofNat 0)))) (sG (xL 0) false (sV (oMov (xT 4))) (sG (xL 1) false (sV (oBin .gtr .no (xL 0) (xK (int .u64 (.ofNat 9223372036854775807))))) (sV (oPick (xL 2) (xK (bool true)) (xL 0)) k))))) (xL 0) (kReg (sV (oMkif 9 (xK (str [115, 116, 114, 105, 110, 103, 115, 58, 32, 82, 101, 112, 101, 97, 116, 32, 111, 117, 116, 112, 117, 116, 32, 108, 101, 110, 103, 116, 104, 32, 111, 118, 101, 114, 102, 108, 111, 119]))) (sPan (xL 0))))
 kSkip)
 (kSeq (kReg (sV (oConv .i64 (xT 4)) (sS 8 (xL 0) sEnd)))
 (kSeq (kRegC (fun k => (sV (oLenS (xT 0)) (sV (oBin .eql .no (xL 0) (ki 0)) k))) (xL 0) (kSeq (kReg (sS 2 (xK (str [])) sEnd))
 kRet)
 kSkip)
 (kSeq (kSeq (kReg (sV (oIdx (xT 0) (ki 0)) (sS 6 (xL 0) sEnd)))
 (kBlock 1 (kSeq (kRegC (fun k => (sV (oBin .eql .no (xT 6) (xK (int .u8 (.ofNat 32)))) (sS 7 (xL 0) k))) (xT 7) kSkip
 (kRegC (fun k => (sV (oBin .eql .no (xT 6) (xK (int .u8 (.ofNat 45)))) (sS 7 (xL 0) k))) (xT 7) kSkip
 (kRegC (fun k => (sV (oBin .eql .no (xT 6) (xK (int .u8 (.ofNat 48)))) (sS 7 (xL 0) k))) (xT 7) kSkip
 (kRegC (fun k => (sV (oBin .eql .no (xT 6) (xK (int .u8 (.ofNat 61)))) (sS 7 (xL 0) k))) (xT 7) kSkip
 (kReg (sV (oBin .eql .no (xT 6) (xK (int .u8 (.ofNat 9)))) (sS 7 (xL 0) sEnd)))))))
 (kCond (xT 7) (kBlock 2 (kRegC (fun k => (sV (oBin .leq .no (xT 8) (ki 128)) (sG (xL 0) true (sV (oMov (xT 0))) (sG (xL 1) true (sC (cFn 279) [(xK (str [32, 32, 32, 32, 32, 32, 32, 32, 32, 32, 32, 32, 32, 32, 32, 32, 32, 32, 32, 32, 32, 32, 32, 32, 32, 32, 32, 32, 32, 32, 32, 32, 32, 32, 32, 32, 32, 32, 32, 32, 32, 32, 32, 32, 32, 32, 32, 32, 32, 32, 32, 32, 32, 32, 32, 32, 32, 32, 32, 32, 32, 32, 32, 32, 32, 32, 32, 32, 32, 32, 32, 32, 32, 32, 32, 32, 32, 32, 32, 32, 32, 32, 32, 32, 32, 32, 32, 32, 32, 32, 32, 32, 32, 32, 32, 32, 32, 32, 32, 32, 32, 32, 32, 32, 32, 32, 32, 32, 32, 32, 32, 32, 32, 32, 32, 32, 32, 32, 32, 32, 32, 32, 32, 32, 32, 32, 32, 32])), (xL 0)]) (sV (oPick (xL 2) (xL 0) (xK (bool false))) k))))) (xL 0) (kSeq (kReg (sV (oSlcs (xK (str [32, 32, 32, 32, 32, 32, 32, 32, 32, 32, 32, 32, 32, 32, 32, 32, 32, 32, 32, 32, 32, 32, 32, 32, 32, 32, 32, 32, 32, 32, 32, 32, 32, 32, 32, 32, 32, 32, 32, 32, 32, 32, 32, 32, 32, 32, 32, 32, 32, 32, 32, 32, 32, 32, 32, 32, 32, 32, 32, 32, 32, 32, 32, 32, 32, 32, 32, 32, 32, 32, 32, 32, 32, 32, 32, 32, 32, 32, 32, 32, 32, 32, 32, 32, 32, 32, 32, 32, 32, 32, 32, 32, 32, 32, 32, 32, 32, 32, 32, 32, 32, 32, 32, 32, 32, 32, 32, 32, 32, 32, 32, 32, 32, 32, 32, 32, 32, 32, 32, 32, 32, 32, 32, 32, 32, 32, 32, 32])) none (some (xT 8))) (sS 2 (xL 0) sEnd)))
 kRet)
 (kRegC (fun k => (sV (oBin .leq .no (xT 8) (ki 128)) (sG (xL 0) true (sV (oMov (xT 0))) (sG (xL 1) true (sC (cFn 279) [(xK (str [45, 45, 45, 45, 45, 45, 45, 45, 45, 45, 45, 45, 45, 45, 45, 45, 45, 45, 45, 45, 45, 45, 45, 45, 45, 45, 45, 45, 45, 45, 45, 45, 45, 45, 45, 45, 45, 45, 45, 45, 45, 45, 45, 45, 45, 45, 45, 45, 45, 45, 45, 45, 45, 45, 45, 45, 45, 45, 45, 45, 45, 45, 45, 45, 45, 45, 45, 45, 45, 45, 45, 45, 45, 45, 45, 45, 45, 45, 45, 45, 45, 45, 45, 45, 45, 45, 45, 45, 45, 45, 45, 45, 45, 45, 45, 45, 45, 45, 45, 45, 45, 45, 45, 45, 45, 45, 45, 45, 45, 45, 45, 45, 45, 45, 45, 45, 45, 45, 45, 45, 45, 45, 45, 45, 45, 45, 45, 45])), (xL 0)]) (sV (oPick (xL 2) (xL 0) (xK (bool false))) k))))) (xL 0) (kSeq (kReg (sV (oSlcs (xK (str [45, 45, 45, 45, 45, 45, 45, 45, 45, 45, 45, 45, 45, 45, 45, 45, 45, 45, 45, 45, 45, 45, 45, 45, 45, 45, 45, 45, 45, 45, 45, 45, 45, 45, 45, 45, 45, 45, 45, 45, 45, 45, 45, 45, 45, 45, 45, 45, 45, 45, 45, 45, 45, 45, 45, 45, 45, 45, 45, 45, 45, 45, 45, 45, 45, 45, 45, 45, 45, 45, 45, 45, 45, 45, 45, 45, 45, 45, 45, 45, 45, 45, 45, 45, 45, 45, 45, 45, 45, 45, 45, 45, 45, 45, 45, 45, 45, 45, 45, 45, 45, 45, 45, 45, 45, 45, 45, 45, 45, 45, 45, 45, 45, 45, 45, 45, 45, 45, 45, 45, 45, 45, 45, 45, 45, 45, 45, 45])) none (some (xT 8))) (sS 2 (xL 0) sEnd)))
 kRet)
 (kRegC (fun k => (sV (oBin .leq .no (xT 8) (ki 64)) (sG (xL 0) true (sV (oMov (xT 0))) (sG (xL 1) true (sC (cFn 279) [(xK (str [48, 48, 48, 48, 48, 48, 48, 48, 48, 48, 48, 48, 48, 48, 48, 48, 48, 48, 48, 48, 48, 48, 48, 48, 48, 48, 48, 48, 48, 48, 48, 48, 48, 48, 48, 48, 48, 48, 48, 48, 48, 48, 48, 48, 48, 48, 48, 48, 48, 48, 48, 48, 48, 48, 48, 48, 48, 48, 48, 48, 48, 48, 48, 48])), (xL 0)]) (sV (oPick (xL 2) (xL 0) (xK (bool false))) k))))) (xL 0) (kSeq (kReg (sV (oSlcs (xK (str [48, 48, 48, 48, 48, 48, 48, 48, 48, 48, 48, 48, 48, 48, 48, 48, 48, 48, 48, 48, 48, 48, 48, 48, 48, 48, 48, 48, 48, 48, 48, 48, 48, 48, 48, 48, 48, 48, 48, 48, 48, 48, 48, 48, 48, 48, 48, 48, 48, 48, 48, 48, 48, 48, 48, 48, 48, 48, 48, 48, 48, 48, 48, 48])) none (some (xT 8))) (sS 2 (xL 0) sEnd)))
 kRet)
 (kRegC (fun k => (sV (oBin .leq .no (xT 8) (ki 128)) (sG (xL 0) true (sV (oMov (xT 0))) (sG (xL 1) true (sC (cFn 279) [(xK (str [61, 61, 61, 61, 61, 61, 61, 61, 61, 61, 61, 61, 61, 61, 61, 61, 61, 61, 61, 61, 61, 61, 61, 61, 61, 61, 61, 61, 61, 61, 61, 61, 61, 61, 61, 61, 61, 61, 61, 61, 61, 61, 61, 61, 61, 61, 61, 61, 61, 61, 61, 61, 61, 61, 61, 61, 61, 61, 61, 61, 61, 61, 61, 61, 61, 61, 61, 61, 61, 61, 61, 61, 61, 61, 61, 61, 61, 61, 61, 61, 61, 61, 61, 61, 61, 61, 61, 61, 61, 61, 61, 61, 61, 61, 61, 61, 61, 61, 61, 61, 61, 61, 61, 61, 61, 61, 61, 61, 61, 61, 61, 61, 61, 61, 61, 61, 61, 61, 61, 61, 61, 61, 61, 61, 61, 61, 61, 61])), (xL 0)]) (sV (oPick (xL 2) (xL 0) (xK (bool false))) k))))) (xL 0) (kSeq (kReg (sV (oSlcs (xK (str [61, 61, 61, 61, 61, 61, 61, 61, 61, 61, 61, 61, 61, 61, 61, 61, 61, 61, 61, 61, 61, 61, 61, 61, 61, 61, 61, 61, 61, 61, 61, 61, 61, 61, 61, 61, 61, 61, 61, 61, 61, 61, 61, 61, 61, 61, 61, 61, 61, 61, 61, 61, 61, 61, 61, 61, 61, 61, 61, 61, 61, 61, 61, 61, 61, 61, 61, 61, 61, 61, 61, 61, 61, 61, 61, 61, 61, 61, 61, 61, 61, 61, 61, 61, 61, 61, 61, 61, 61, 61, 61, 61, 61, 61, 61, 61, 61, 61, 61, 61, 61, 61, 61, 61, 61, 61, 61, 61, 61, 61, 61, 61, 61, 61, 61, 61, 61, 61, 61, 61, 61, 61, 61, 61, 61, 61, 61, 61])) none (some (xT 8))) (sS 2 (xL 0) sEnd)))
 kRet)
 (kRegC (fun k => (sV (oBin .leq .no (xT 8) (ki 64)) (sG (xL 0) true (sV (oMov (xT 0))) (sG (xL 1) true (sC (cFn 279) [(xK (str [9, 9, 9, 9, 9, 9, 9, 9, 9, 9, 9, 9, 9, 9, 9, 9, 9, 9, 9, 9, 9, 9, 9, 9, 9, 9, 9, 9, 9, 9, 9, 9, 9, 9, 9, 9, 9, 9, 9, 9, 9, 9, 9, 9, 9, 9, 9, 9, 9, 9, 9, 9, 9, 9, 9, 9, 9, 9, 9, 9, 9, 9, 9, 9])), (xL 0)]) (sV (oPick (xL 2) (xL 0) (xK (bool false))) k))))) (xL 0) (kSeq (kReg (sV (oSlcs (xK (str [9, 9, 9, 9, 9, 9, 9, 9, 9, 9, 9, 9, 9, 9, 9, 9, 9, 9, 9, 9, 9, 9, 9, 9, 9, 9, 9, 9, 9, 9, 9, 9, 9, 9, 9, 9, 9, 9, 9, 9, 9, 9, 9, 9, 9, 9, 9, 9, 9, 9, 9, 9, 9, 9, 9, 9, 9, 9, 9, 9, 9, 9, 9, 9])) none (some (xT 8))) (sS 2 (xL 0) sEnd)))
 kRet)
 kSkip))))))
 kSkip))))
 (kSeq (kReg (sS 9 (xT 8) sEnd))
 (kSeq (kRegC (fun k => (sV (oBin .gtr .no (xT 8) (ki 8192)) k)) (xL 0) (kSeq (kReg (sV (oLenS (xT 0)) (sV (oBin .quo .no (ki 8192) (xL 0)) (sV (oLenS (xT 0)) (sV (oBin .mul .no (xL 1) (xL 0)) (sS 9 (xL 0) sEnd))))))
 (kRegC (fun k => (sV (oBin .eql .no (xT 9) (ki 0)) k)) (xL 0) (kReg (sV (oLenS (xT 0)) (sS 9 (xL 0) sEnd)))
 kSkip))
 kSkip)
 (kSeq (kReg (sH (oAlloc 419 2 [nilptr, nils]) (sS 10 (xL 0) sEnd)))
 (kSeq (kReg (sC (cFn 280) [(xT 10), (xT 8)] sEnd))
 (kSeq (kReg (sC (cFn 267) [(xT 10), (xT 0)] sEnd))
 (kSeq (kBlock 3 (kLoop (kSeq (kRegC (fun k => (sC (cFn 281) [(xT 10)] (sV (oBin .lss .no (xL 0) (xT 8)) k))) (xL 0) kSkip
 (kExit 3))
 (kBlock 4 (kSeq (kReg (sC (cFn 281) [(xT 10)] (sV (oBin .sub .no (xT 8) (xL 0)) (sC (cFn 281) [(xT 10)] (sV (oMm false (xL 1) [(xL 0), (xT 9)]) (sS 11 (xL 0) sEnd))))))
 (kReg (sC (cFn 268) [(xT 10)] (sV (oSlcs (xL 0) none (some (xT 11))) (sC (cFn 267) [(xT 10), (xL 0)] sEnd)))))))))
 (kSeq (kReg (sC (cFn 268) [(xT 10)] (sS 2 (xL 0) sEnd)))
 kRet)))))))))))))))
theorem t234 : FF d234 Tryz.f234 a234 [(.t 2)] := ff Tryz.func234 (by kernel_rfl)
def x234 : XFn := .go a234 2 pd10 [(.t 2)]
def d235 : FD := ⟨235, 3, [6, 7, 8]⟩
def a235 : CodeF := (kSeq (kReg (sS 3 (ki 0) (sS 4 (xK nilif) sEnd)))
 (kSeq (kReg (sC (cFn 282) [(xT 0), (xT 1), (xT 2)] (sV (oExt 0 (xL 0)) (sV (oExt 1 (xL 1)) (sS 5 (xL 1) (sS 4 (xL 0) sEnd))))))
 (kSeq (kRegC (fun k => (sV (oBin .neq (.iface true) (xT 4) (xK nilif)) k)) (xL 0) (kSeq (kReg (sV (oMov (xT 4)) (sC (cFn 283) [(xK (str [80, 97, 114, 115, 101, 73, 110, 116])), (xT 0), (xT 1), (xT 2), (xL 0)] (sS 3 (xT 5) (sS 4 (xL 0) sEnd)))))
 kRet)
 kSkip)
 (kSeq (kReg (sS 3 (xT 5) (sS 4 (xK nilif) sEnd)))
 kRet))))
theorem t235 : FF d235 Tryz.f235 a235 [(.t 3), (.t 4)] := ff Tryz.func235 (by kernel_rfl)
def x235 : XFn := .go a235 3 pd3 [(.t 3), (.t 4)]
def d236 : FD := ⟨236, 4, [10, 8, 12, 11, 9, 87, 13, 15, 14, 17, 16, 18]⟩
def a236 : CodeF := (kSeq (kReg (sS 5 (xK (bool true)) sEnd))
 (kSeq (kReg (sS 8 (xK (bool true)) sEnd))
 (kBlock 0 (kLoop (kBlock 1 (kSeq (kReg (sV (oBin .sub .no (xT 2) (xT 1)) (sS 4 (xL 0) sEnd)))
 (kSeq (kRegC (fun k => (sV (oBin .leq .no (xT 4) (ki 12)) k)) (xL 0) (kSeq (kReg (sC (cFn 284) [(xT 0), (xT 1), (xT 2)] sEnd))
 kRet)
 kSkip)
 (kSeq (kRegC (fun k => (sV (oBin .eql .no (xT 3) (ki 0)) k)) (xL 0) (kSeq (kReg (sC (cFn 285) [(xT 0), (xT 1), (xT 2)] sEnd))
 kRet)
 kSkip)
 (kSeq (kRegC (fun k => (sV (oUn .not (xT 5)) k)) (xL 0) (kSeq (kReg (sC (cFn 286) [(xT 0), (xT 1), (xT 2)] sEnd))
 (kReg (sV (oMov (xT 3)) (sV (oBin .sub .no (xL 0) (ki 1)) (sS 3 (xL 0) sEnd)))))
 kSkip)
 (kSeq (kReg (sC (cFn 287) [(xT 0), (xT 1), (xT 2)] (sV (oExt 0 (xL 0)) (sV (oExt 1 (xL 1)) (sS 7 (xL 1) (sS 6 (xL 0) sEnd))))))
 (kSeq (kRegC (fun k => (sV (oBin .eql .no (xT 6) (ki 2)) k)) (xL 0) (kSeq (kReg (sC (cFn 288) [(xT 0), (xT 1), (xT 2)] sEnd))
 (kSeq (kReg (sV (oBin .sub .no (xT 2) (ki 1)) (sV (oMov (xT 7)) (sV (oBin .sub .no (xL 0) (xT 1)) (sV (oBin .sub .no (xL 2) (xL 0)) (sS 7 (xL 0) sEnd))))))
 (kReg (sS 6 (ki 1) sEnd))))
 kSkip)
 (kSeq (kRegC (fun k => (sG (xT 5) true (sV (oMov (xT 8))) (sV (oPick (xT 5) (xL 0) (xK (bool false))) (sG (xL 0) true (sV (oMov (xT 6))) (sG (xL 1) true (sV (oBin .eql .no (xL 0) (ki 1))) (sV (oPick (xL 2) (xL 0) (xK (bool false))) k)))))) (xL 0) (kRegC (fun k => (sC (cFn 289) [(xT 0), (xT 1), (xT 2)] k)) (xL 0) kRet
 kSkip)
 kSkip)
 (kSeq (kSeq (kDraw [(.v (oMov (xT 1)), none), (.v (oBin .gtr .no (xL 0) (ki 0)), none), (.v (oMov (xL 0)), none), (.v (oMov (xT 0)), (some ((xL 0), true))), (.v (oMov (xT 1)), (some ((xL 1), true))), (.v (oBin .sub .no (xL 0) (ki 1)), (some ((xL 2), true))), (.v (oIaddr 1 (xL 2) (xL 0)), (some ((xL 3), true))), (.v (oLoad (xL 0)), (some ((xL 4), true))), (.v (oMov (xT 0)), (some ((xL 5), true))), (.v (oMov (xT 7)), (some ((xL 6), true))), (.v (oIaddr 1 (xL 1) (xL 0)), (some ((xL 7), true))), (.v (oLoad (xL 0)), (some ((xL 8), true))), (.c (cFn 256) [(xL 4), (xL 0)], (some ((xL 9), true))), (.v (oUn .not (xL 0)), (some ((xL 10), true))), (.v (oPick (xL 11) (xL 0) (xK (bool false))), none)] 0 [none, none, none, none, none, none, none, none, none, (some 0), none, none, none, none, none, none] [])
 (kCond (xT 9) (kSeq (kReg (sC (cFn 290) [(xT 0), (xT 1), (xT 2), (xT 7)] (sS 10 (xL 0) sEnd)))
 (kSeq (kReg (sS 1 (xT 10) sEnd))
 (kExit 1)))
 kSkip))
 (kSeq (kReg (sC (cFn 291) [(xT 0), (xT 1), (xT 2), (xT 7)] (sV (oExt 0 (xL 0)) (sV (oExt 1 (xL 1)) (sS 12 (xL 1) (sS 11 (xL 0) sEnd))))))
 (kSeq (kReg (sS 8 (xT 11) sEnd))
 (kSeq (kReg (sV (oBin .sub .no (xT 12) (xT 1)) (sV (oBin .sub .no (xT 2) (xT 12)) (sS 14 (xL 1) (sS 13 (xL 0) sEnd)))))
 (kSeq (kReg (sV (oBin .quo .no (xT 4) (ki 8)) (sS 15 (xL 0) sEnd)))
 (kRegC (fun k => (sV (oBin .lss .no (xT 14) (xT 13)) k)) (xL 0) (kSeq (kReg (sV (oBin .geq .no (xT 14) (xT 15)) (sS 5 (xL 0) sEnd)))
 (kSeq (kReg (sC (cFn 236) [(xT 0), (xT 1), (xT 12), (xT 3)] sEnd))
 (kReg (sV (oBin .add .no (xT 12) (ki 1)) (sS 1 (xL 0) sEnd)))))
 (kSeq (kReg (sV (oBin .geq .no (xT 13) (xT 15)) (sS 5 (xL 0) sEnd)))
 (kSeq (kReg (sV (oBin .add .no (xT 12) (ki 1)) (sC (cFn 236) [(xT 0), (xL 0), (xT 2), (xT 3)] sEnd)))
 (kReg (sS 2 (xT 12) sEnd))))))))))))))))))))))
theorem t236 : FF d236 Tryz.f236 a236 [] := ff Tryz.func236 (by kernel_rfl)
def x236 : XFn := .go a236 4 pd12 []
def d237 : FD := ⟨237, 1, [2]⟩
def a237 : CodeF := (kSeq (kReg (sS 1 (ki 0) sEnd))
 (kSeq (kCond (xK (bool false)) (kSeq (kReg (sV (oConv .u32 (xT 0)) (sC (cFn 292) [(xL 0)] (sS 1 (xL 0) sEnd))))
 kRet)
 kSkip)
 (kSeq (kReg (sC (cFn 192) [(xT 0)] (sS 1 (xL 0) sEnd)))
 kRet)))
theorem t237 : FF d237 Tryz.f237 a237 [(.t 1)] := ff Tryz.func237 (by kernel_rfl)
def x237 : XFn := .go a237 1 pd1 [(.t 1)]
def d238 : FD := ⟨238, 4, [10, 8, 12, 11, 9, 87, 13, 15, 14, 17, 16, 18]⟩
def a238 : CodeF := (kSeq (kReg (sS 5 (xK (bool true)) sEnd))
 (kSeq (kReg (sS 8 (xK (bool true)) sEnd))
 (kBlock 0 (kLoop (kBlock 1 (kSeq (kReg (sV (oBin .sub .no (xT 2) (xT 1)) (sS 4 (xL 0) sEnd)))
 (kSeq (kRegC (fun k => (sV (oBin .leq .no (xT 4) (ki 12)) k)) (xL 0) (kSeq (kReg (sC (cFn 293) [(xT 0), (xT 1), (xT 2)] sEnd))
 kRet)
 kSkip)
 (kSeq (kRegC (fun k => (sV (oBin .eql .no (xT 3) (ki 0)) k)) (xL 0) (kSeq (kReg (sC (cFn 294) [(xT 0), (xT 1), (xT 2)] sEnd))
 kRet)
 kSkip)
 (kSeq (kRegC (fun k => (sV (oUn .not (xT 5)) k)) (xL 0) (kSeq (kReg (sC (cFn 295) [(xT 0), (xT 1), (xT 2)] sEnd))
 (kReg (sV (oMov (xT 3)) (sV (oBin .sub .no (xL 0) (ki 1)) (sS 3 (xL 0) sEnd)))))
 kSkip)
 (kSeq (kReg (sC (cFn 296) [(xT 0), (xT 1), (xT 2)] (sV (oExt 0 (xL 0)) (sV (oExt 1 (xL 1)) (sS 7 (xL 1) (sS 6 (xL 0) sEnd))))))
 (kSeq (kRegC (fun k => (sV (oBin .eql .no (xT 6) (ki 2)) k)) (xL 0) (kSeq (kReg (sC (cFn 297) [(xT 0), (xT 1), (xT 2)] sEnd))
 (kSeq (kReg (sV (oBin .sub .no (xT 2) (ki 1)) (sV (oMov (xT 7)) (sV (oBin .sub .no (xL 0) (xT 1)) (sV (oBin .sub .no (xL 2) (xL 0)) (sS 7 (xL 0) sEnd))))))
 (kReg (sS 6 (ki 1) sEnd))))
 kSkip)
 (kSeq (kRegC (fun k => (sG (xT 5) true (sV (oMov (xT 8))) (sV (oPick (xT 5) (xL 0) (xK (bool false))) (sG (xL 0) true (sV (oMov (xT 6))) (sG (xL 1) true (sV (oBin .eql .no (xL 0) (ki 1))) (sV (oPick (xL 2) (xL 0) (xK (bool false))) k)))))) (xL 0) (kRegC (fun k => (sC (cFn 298) [(xT 0), (xT 1), (xT 2)] k)) (xL 0) kRet
 kSkip)
 kSkip)
 (kSeq (kSeq (kDraw [(.v (oMov (xT 1)), none), (.v (oBin .gtr .no (xL 0) (ki 0)), none), (.v (oMov (xL 0)), none), (.v (oMov (xT 0)), (some ((xL 0), true))), (.v (oMov (xT 1)), (some ((xL 1), true))), (.v (oBin .sub .no (xL 0) (ki 1)), (some ((xL 2), true))), (.v (oIaddr 1 (xL 2) (xL 0)), (some ((xL 3), true))), (.v (oLoad (xL 0)), (some ((xL 4), true))), (.v (oMov (xT 0)), (some ((xL 5), true))), (.v (oMov (xT 7)), (some ((xL 6), true))), (.v (oIaddr 1 (xL 1) (xL 0)), (some ((xL 7), true))), (.v (oLoad (xL 0)), (some ((xL 8), true))), (.c (cFn 299) [(xL 4), (xL 0)], (some ((xL 9), true))), (.v (oUn .not (xL 0)), (some ((xL 10), true))), (.v (oPick (xL 11) (xL 0) (xK (bool false))), none)] 0 [none, none, none, none, none, none, none, none, none, (some 0), none, none, none, none, none, none] [])
 (kCond (xT 9) (kSeq (kReg (sC (cFn 300) [(xT 0), (xT 1), (xT 2), (xT 7)] (sS 10 (xL 0) sEnd)))
 (kSeq (kReg (sS 1 (xT 10) sEnd))
 (kExit 1)))
 kSkip))
 (kSeq (kReg (sC (cFn 301) [(xT 0), (xT 1), (xT 2), (xT 7)] (sV (oExt 0 (xL 0)) (sV (oExt 1 (xL 1)) (sS 12 (xL 1) (sS 11 (xL 0) sEnd))))))
 (kSeq (kReg (sS 8 (xT 11) sEnd))
 (kSeq (kReg (sV (oBin .sub .no (xT 12) (xT 1)) (sV (oBin .sub .no (xT 2) (xT 12)) (sS 14 (xL 1) (sS 13 (xL 0) sEnd)))))
 (kSeq (kReg (sV (oBin .quo .no (xT 4) (ki 8)) (sS 15 (xL 0) sEnd)))
 (kRegC (fun k => (sV (oBin .lss .no (xT 14) (xT 13)) k)) (xL 0) (kSeq (kReg (sV (oBin .geq .no (xT 14) (xT 15)) (sS 5 (xL 0) sEnd)))
 (kSeq (kReg (sC (cFn 238) [(xT 0), (xT 1), (xT 12), (xT 3)] sEnd))
 (kReg (sV (oBin .add .no (xT 12) (ki 1)) (sS 1 (xL 0) sEnd)))))
 (kSeq (kReg (sV (oBin .geq .no (xT 13) (xT 15)) (sS 5 (xL 0) sEnd)))
 (kSeq (kReg (sV (oBin .add .no (xT 12) (ki 1)) (sC (cFn 238) [(xT 0), (xL 0), (xT 2), (xT 3)] sEnd)))
 (kReg (sS 2 (xT 12) sEnd))))))))))))))))))))))
theorem t238 : FF d238 Tryz.f238 a238 [] := ff Tryz.func238 (by kernel_rfl)
def x238 : XFn := .go a238 4 pd12 []
def d239 : FD := ⟨239, 2, [4, 6, 7, 2, 5]⟩
def a239 : CodeF := (kSeq (kReg (sH (oBox 137 1 (xT 0)) (sS 5 (xL 0) (sS 2 (xK nils) sEnd))))
 (kSeq (kSeq (kReg (sS 3 (xT 1) sEnd))
 (kBlock 0 (kRf 16781050 [4] (xT 3))))
 (kSeq (kReg (sV (oLoad (xT 5)) (sS 2 (xL 0) sEnd)))
 kRet)))
theorem t239 : FF d239 Tryz.f239 a239 [(.t 2)] := ff Tryz.func239 (by kernel_rfl)
def x239 : XFn := .go a239 2 pd5 [(.t 2)]
def r239x0 : CodeF × CodeF := ((kReg (sS 6 (xT 4) sEnd)),
 (kBlock 1 (kReg (sV (oLoad (xT 5)) (sH (oBsl 9 1 1 [(str [])] [(0, 1, (xT 6))]) (sH (oApp 9 1 (xL 1) (xL 0)) (sH (oStore 1 (xT 5) (xL 0)) sEnd)))))))
theorem u239x0 : RfFact Tryz.prog d239 Tryz.f239 16781050 r239x0 := ⟨Tryz.func239, by kernel_rfl⟩
def d240 : FD := ⟨240, 2, [4, 6, 7, 2, 5]⟩
def a240 : CodeF := (kSeq (kReg (sH (oBox 40 1 (xT 0)) (sS 5 (xL 0) (sS 2 (xK nils) sEnd))))
 (kSeq (kSeq (kReg (sS 3 (xT 1) sEnd))
 (kBlock 0 (kRf 16781066 [4] (xT 3))))
 (kSeq (kReg (sV (oLoad (xT 5)) (sS 2 (xL 0) sEnd)))
 kRet)))
theorem t240 : FF d240 Tryz.f240 a240 [(.t 2)] := ff Tryz.func240 (by kernel_rfl)
def x240 : XFn := .go a240 2 pd5 [(.t 2)]
def r240x0 : CodeF × CodeF := ((kReg (sS 6 (xT 4) sEnd)),
 (kBlock 1 (kReg (sV (oLoad (xT 5)) (sH (oBsl 3 1 1 [(int .i64 (.ofNat 0))] [(0, 1, (xT 6))]) (sH (oApp 3 1 (xL 1) (xL 0)) (sH (oStore 1 (xT 5) (xL 0)) sEnd)))))))
theorem u240x0 : RfFact Tryz.prog d240 Tryz.f240 16781066 r240x0 := ⟨Tryz.func240, by kernel_rfl⟩
def d241 : FD := ⟨241, 4, [10, 8, 12, 11, 9, 87, 13, 15, 14, 17, 16, 18]⟩
def a241 : CodeF := (kSeq (kReg (sS 5 (xK (bool true)) sEnd))
 (kSeq (kReg (sS 8 (xK (bool true)) sEnd))
 (kBlock 0 (kLoop (kBlock 1 (kSeq (kReg (sV (oBin .sub .no (xT 2) (xT 1)) (sS 4 (xL 0) sEnd)))
 (kSeq (kRegC (fun k => (sV (oBin .leq .no (xT 4) (ki 12)) k)) (xL 0) (kSeq (kReg (sC (cFn 302) [(xT 0), (xT 1), (xT 2)] sEnd))
 kRet)
 kSkip)
 (kSeq (kRegC (fun k => (sV (oBin .eql .no (xT 3) (ki 0)) k)) (xL 0) (kSeq (kReg (sC (cFn 303) [(xT 0), (xT 1), (xT 2)] sEnd))
 kRet)
 kSkip)
 (kSeq (kRegC (fun k => (sV (oUn .not (xT 5)) k)) (xL 0) (kSeq (kReg (sC (cFn 304) [(xT 0), (xT 1), (xT 2)] sEnd))
 (kReg (sV (oMov (xT 3)) (sV (oBin .sub .no (xL 0) (ki 1)) (sS 3 (xL 0) sEnd)))))
 kSkip)
 (kSeq (kReg (sC (cFn 305) [(xT 0), (xT 1), (xT 2)] (sV (oExt 0 (xL 0)) (sV (oExt 1 (xL 1)) (sS 7 (xL 1) (sS 6 (xL 0) sEnd))))))
 (kSeq (kRegC (fun k => (sV (oBin .eql .no (xT 6) (ki 2)) k)) (xL 0) (kSeq (kReg (sC (cFn 306) [(xT 0), (xT 1), (xT 2)] sEnd))
 (kSeq (kReg (sV (oBin .sub .no (xT 2) (ki 1)) (sV (oMov (xT 7)) (sV (oBin .sub .no (xL 0) (xT 1)) (sV (oBin .sub .no (xL 2) (xL 0)) (sS 7 (xL 0) sEnd))))))
 (kReg (sS 6 (ki 1) sEnd))))
 kSkip)
 (kSeq (kRegC (fun k => (sG (xT 5) true (sV (oMov (xT 8))) (sV (oPick (xT 5) (xL 0) (xK (bool false))) (sG (xL 0) true (sV (oMov (xT 6))) (sG (xL 1) true (sV (oBin .eql .no (xL 0) (ki 1))) (sV (oPick (xL 2) (xL 0) (xK (bool false))) k)))))) (xL 0) (kRegC (fun k => (sC (cFn 307) [(xT 0), (xT 1), (xT 2)] k)) (xL 0) kRet
 kSkip)
 kSkip)
 (kSeq (kSeq (kDraw [(.v (oMov (xT 1)), none), (.v (oBin .gtr .no (xL 0) (ki 0)), none), (.v (oMov (xL 0)), none), (.v (oMov (xT 0)), (some ((xL 0), true))), (.v (oMov (xT 1)), (some ((xL 1), true))), (.v (oBin .sub .no (xL 0) (ki 1)), (some ((xL 2), true))), (.v (oIaddr 1 (xL 2) (xL 0)), (some ((xL 3), true))), (.v (oLoad (xL 0)), (some ((xL 4), true))), (.v (oMov (xT 0)), (some ((xL 5), true))), (.v (oMov (xT 7)), (some ((xL 6), true))), (.v (oIaddr 1 (xL 1) (xL 0)), (some ((xL 7), true))), (.v (oLoad (xL 0)), (some ((xL 8), true))), (.c (cFn 308) [(xL 4), (xL 0)], (some ((xL 9), true))), (.v (oUn .not (xL 0)), (some ((xL 10), true))), (.v (oPick (xL 11) (xL 0) (xK (bool false))), none)] 0 [none, none, none, none, none, none, none, none, none, (some 0), none, none, none, none, none, none] [])
 (kCond (xT 9) (kSeq (kReg (sC (cFn 309) [(xT 0), (xT 1), (xT 2), (xT 7)] (sS 10 (xL 0) sEnd)))
 (kSeq (kReg (sS 1 (xT 10) sEnd))
 (kExit 1)))
 kSkip))
 (kSeq (kReg (sC (cFn 310) [(xT 0), (xT 1), (xT 2), (xT 7)] (sV (oExt 0 (xL 0)) (sV (oExt 1 (xL 1)) (sS 12 (xL 1) (sS 11 (xL 0) sEnd))))))
 (kSeq (kReg (sS 8 (xT 11) sEnd))
 (kSeq (kReg (sV (oBin .sub .no (xT 12) (xT 1)) (sV (oBin .sub .no (xT 2) (xT 12)) (sS 14 (xL 1) (sS 13 (xL 0) sEnd)))))
 (kSeq (kReg (sV (oBin .quo .no (xT 4) (ki 8)) (sS 15 (xL 0) sEnd)))
 (kRegC (fun k => (sV (oBin .lss .no (xT 14) (xT 13)) k)) (xL 0) (kSeq (kReg (sV (oBin .geq .no (xT 14) (xT 15)) (sS 5 (xL 0) sEnd)))
 (kSeq (kReg (sC (cFn 241) [(xT 0), (xT 1), (xT 12), (xT 3)] sEnd))
 (kReg (sV (oBin .add .no (xT 12) (ki 1)) (sS 1 (xL 0) sEnd)))))
 (kSeq (kReg (sV (oBin .geq .no (xT 13) (xT 15)) (sS 5 (xL 0) sEnd)))
 (kSeq (kReg (sV (oBin .add .no (xT 12) (ki 1)) (sC (cFn 241) [(xT 0), (xL 0), (xT 2), (xT 3)] sEnd)))
 (kReg (sS 2 (xT 12) sEnd))))))))))))))))))))))
theorem t241 : FF d241 Tryz.f241 a241 [] := ff Tryz.func241 (by kernel_rfl)
def x241 : XFn := .go a241 4 pd12 []
def d242 : FD := ⟨242, 1, [2, 3, 4]⟩
def a242 : CodeF := (kSeq (kReg (sS 1 (xK (int .u32 (.ofNat 0))) sEnd))
 (kSeq (kSeq (kReg (sS 2 (ki 0) sEnd))
 (kBlock 0 (kLoop (kSeq (kReg (sV (oBin .lss .no (xT 2) (ki 4)) (sS 3 (xL 0) sEnd)))
 (kSeq (kCond (xT 3) kSkip
 (kExit 0))
 (kSeq (kBlock 1 (kReg (sV (oMov (xT 0)) (sV (oBin .shr .no (xL 0) (xK (int .u64 (.ofNat 1)))) (sV (oMov (xT 0)) (sV (oBin .and .no (xL 0) (xK (int .u32 (.ofNat 1)))) (sV (oBin .mul .no (xK (int .u32 (.ofNat 3988292384))) (xL 0)) (sV (oBin .xor .no (xL 3) (xL 0)) (sS 0 (xL 0) sEnd)))))))))
 (kReg (sV (oBin .add .no (xT 2) (ki 1)) (sS 2 (xL 0) sEnd)))))))))
 (kSeq (kReg (sS 1 (xT 0) sEnd))
 kRet)))
theorem t242 : FF d242 Tryz.f242 a242 [(.t 1)] := ff Tryz.func242 (by kernel_rfl)
def x242 : XFn := .go a242 1 pd3 [(.t 1)]
def d243 : FD := ⟨243, 3, [4, 5, 6]⟩
def a243 : CodeF := (kSeq (kReg (sS 3 (xK (str [])) sEnd))
 (kSeq (kRegC (fun k => (sV (oBin .eql .no (xT 0) (ki 0)) k)) (xL 0) (kSeq (kReg (sV (oLoad (xT 1)) (sC (cFn 173) [(xL 0), (ki 4096)] (sS 3 (xL 0) sEnd))))
 kRet)
 kSkip)
 (kSeq (kDraw [(.v (oLoad (xT 1)), none), (.v (oLoad (xT 2)), none), (.v (oMov (xT 0)), none), (.v (oBin .sub .no (xL 0) (ki 1)), none), (.v (oIaddr 1 (xL 2) (xL 0)), none), (.v (oLoad (xL 0)), none), (.v (oLenS (xL 0)), none), (.c (cFn 73) [(xL 6), (xL 0)], none), (.v (oMov (xL 0)), none)] 0 [none, none, none, none, (some 0), none] [])
 (kSeq (kDraw [(.v (oLoad (xT 2)), none), (.v (oMov (xT 0)), none), (.v (oBin .sub .no (xL 0) (ki 1)), none), (.v (oIaddr 1 (xL 2) (xL 0)), none), (.v (oLoad (xL 0)), none), (.v (oMov (xT 4)), none), (.v (oSlcs (xL 1) none (some (xL 0))), none), (.v (oLoad (xT 1)), none), (.c (cFn 173) [(xL 0), (ki 4096)], none), (.v (oBin .add .no (xL 2) (xL 0)), none), (.v (oMov (xL 0)), none)] 0 [none, none, none, none, none, (some 0)] [(10, 2), (6, 2)])
 (kSeq (kRegC (fun k => (sV (oLoad (xT 1)) (sC (cFn 78) [(xL 0)] (sV (oBin .neq .no (xL 0) (ki 0)) (sG (xL 0) false (sV (oMov (xT 5))) (sG (xL 1) false (sV (oLoad (xT 2))) (sG (xL 2) false (sV (oMov (xT 0))) (sG (xL 3) false (sV (oBin .sub .no (xL 0) (ki 1))) (sG (xL 4) false (sV (oIaddr 1 (xL 2) (xL 0))) (sG (xL 5) false (sV (oLoad (xL 0))) (sG (xL 6) false (sV (oBin .leq .no (xL 5) (xL 0))) (sV (oPick (xL 7) (xK (bool true)) (xL 0)) (sG (xL 0) false (sV (oLoad (xT 2))) (sG (xL 1) false (sV (oMov (xT 0))) (sG (xL 2) false (sV (oBin .sub .no (xL 0) (ki 1))) (sG (xL 3) false (sV (oIaddr 1 (xL 2) (xL 0))) (sG (xL 4) false (sV (oLoad (xL 0))) (sG (xL 5) false (sV (oMov (xT 5))) (sG (xL 6) false (sC (cFn 244) [(xL 1), (xL 0)]) (sG (xL 7) false (sV (oMov (xT 4))) (sG (xL 8) false (sV (oBin .neq .no (xL 1) (xL 0))) (sV (oPick (xL 9) (xK (bool true)) (xL 0)) (sG (xL 0) false (sV (oMov (xT 5))) (sG (xL 1) false (sV (oLenS (xL 0))) (sG (xL 2) false (sV (oBin .gtr .no (xL 0) (ki 4096))) (sV (oPick (xL 3) (xK (bool true)) (xL 0)) k)))))))))))))))))))))))))) (xL 0) (kSeq (kReg (sS 3 (xK (str [])) sEnd))
 kRet)
 kSkip)
 (kSeq (kReg (sS 3 (xT 5) sEnd))
 kRet))))))
theorem t243 : FF d243 Tryz.f243 a243 [(.t 3)] := ff Tryz.func243 (by kernel_rfl)
def x243 : XFn := .go a243 3 pd3 [(.t 3)]
def d244 : FD := ⟨244, 2, [4, 5, 24]⟩
def a244 : CodeF := (kSeq (kReg (sS 2 (ki 0) sEnd))
 (kSeq (kReg (sS 3 (ki 0) sEnd))
 (kSeq (kBlock 0 (kLoop (kSeq (kSeq (kDraw [(.v (oMov (xT 3)), none), (.v (oMov (xT 0)), none), (.v (oLenS (xL 0)), none), (.v (oBin .lss .no (xL 2) (xL 0)), none), (.v (oMov (xL 0)), none), (.v (oMov (xT 3)), (some ((xL 0), true))), (.v (oMov (xT 1)), (some ((xL 1), true))), (.v (oLenS (xL 0)), (some ((xL 2), true))), (.v (oBin .lss .no (xL 2) (xL 0)), (some ((xL 3), true))), (.v (oPick (xL 4) (xL 0) (xK (bool false))), none), (.v (oMov (xL 0)), none), (.v (oMov (xT 0)), (some ((xL 0), true))), (.v (oMov (xT 3)), (some ((xL 1), true))), (.v (oIdx (xL 1) (xL 0)), (some ((xL 2), true))), (.v (oMov (xT 1)), (some ((xL 3), true))), (.v (oMov (xT 3)), (some ((xL 4), true))), (.v (oIdx (xL 1) (xL 0)), (some ((xL 5), true))), (.v (oBin .eql .no (xL 3) (xL 0)), (some ((xL 6), true))), (.v (oPick (xL 7) (xL 0) (xK (bool false))), none)] 0 [none, none, none, none, (some 0)] [])
 (kCond (xT 4) kSkip
 (kExit 0)))
 (kBlock 1 (kReg (sV (oMov (xT 3)) (sV (oBin .add .no (xL 0) (ki 1)) (sS 3 (xL 0) sEnd))))))))
 (kSeq (kReg (sS 2 (xT 3) sEnd))
 kRet))))
theorem t244 : FF d244 Tryz.f244 a244 [(.t 2)] := ff Tryz.func244 (by kernel_rfl)
def x244 : XFn := .go a244 2 pd3 [(.t 2)]
def d245 : FD := ⟨245, 1, [2]⟩
def a245 : CodeF := (kSeq (kReg (sS 1 (xK (int .u64 (.ofNat 0))) sEnd))
 (kSeq (kReg (sV (oMkfn 136 [(xT 0)] []) (sC (cFn 191) [(xT 0), (xL 0)] (sS 1 (xL 0) sEnd))))
 kRet))
theorem t245 : FF d245 Tryz.f245 a245 [(.t 1)] := ff Tryz.func245 (by kernel_rfl)
def x245 : XFn := .go a245 1 pd1 [(.t 1)]
def d246 : FD := ⟨246, 2, [3, 6, 5, 4]⟩
def a246 : CodeF := (kSeq (kReg (sS 2 (xK nils) sEnd))
 (kSeq (kReg (sV (oLoad (xT 1)) (sC (cFn 74) [(xL 0), (xT 0)] (sV (oExt 0 (xL 0)) (sV (oExt 1 (xL 1)) (sV (oExt 2 (xL 2)) (sS 5 (xL 2) (sS 4 (xL 1) (sS 3 (xL 0) sEnd)))))))))
 (kSeq (kRegC (fun k => (sV (oBin .neq .no (xT 3) (ki 0)) k)) (xL 0) (kSeq (kReg (sH (oStore 1 (xT 1) (xK nils)) sEnd))
 (kSeq (kReg (sS 2 (xK nils) sEnd))
 kRet))
 kSkip)
 (kSeq (kReg (sV (oLoad (xT 1)) (sV (oSlc 1 (xL 0) (some (xT 4)) none none) (sH (oStore 1 (xT 1) (xL 0)) sEnd))))
 (kSeq (kReg (sS 2 (xT 5) sEnd))
 kRet)))))
theorem t246 : FF d246 Tryz.f246 a246 [(.t 2)] := ff Tryz.func246 (by kernel_rfl)
def x246 : XFn := .go a246 2 pd4 [(.t 2)]
def d247 : FD := ⟨247, 1, [2, 8, 9, 10, 7, 6, 4, 3]⟩
def a247 : CodeF := (kSeq (kReg (sS 1 (xK (bool false)) sEnd))
 (kSeq (kReg (sS 8 (xK (int .i64 (.negSucc 0))) (sS 7 (ki 0) sEnd)))
 (kSeq (kSeq (kReg (sS 5 (xT 0) (sV (oLenL (xT 5)) (sS 2 (xL 0) (sS 3 (ki 0) sEnd)))))
 (kBlock 0 (kLoop (kSeq (kReg (sV (oBin .lss .no (xT 3) (xT 2)) (sS 4 (xL 0) sEnd)))
 (kSeq (kCond (xT 4) kSkip
 (kExit 0))
 (kSeq (kBlock 1 (kSeq (kReg (sV (oIaddr 2 (xT 5) (xT 3)) (sV (oLoadN 2 (xL 0)) (sH (oAlloc 233 2 [(int .i64 (.ofNat 0)), nils]) (sS 6 (xL 0) (sH (oStore 2 (xT 6) (xL 1)) sEnd))))))
 (kSeq (kReg (sV (oMov (xT 7)) (sV (oFaddr 1 (xT 6)) (sV (oLoad (xL 0)) (sV (oLenL (xL 0)) (sV (oBin .add .no (xL 3) (xL 0)) (sS 7 (xL 0) sEnd)))))))
 (kSeq (kRegC (fun k => (sV (oFaddr 0 (xT 6)) (sV (oLoad (xL 0)) (sV (oBin .leq .no (xL 0) (xT 8)) (sG (xL 0) false (sV (oFaddr 0 (xT 6))) (sG (xL 1) false (sV (oLoad (xL 0))) (sG (xL 2) false (sV (oBin .geq .no (xL 0) (ki 16384))) (sV (oPick (xL 3) (xK (bool true)) (xL 0)) (sG (xL 0) false (sV (oFaddr 1 (xT 6))) (sG (xL 1) false (sV (oLoad (xL 0))) (sG (xL 2) false (sV (oLenL (xL 0))) (sG (xL 3) false (sV (oBin .eql .no (xL 0) (ki 0))) (sV (oPick (xL 4) (xK (bool true)) (xL 0)) (sG (xL 0) false (sV (oMov (xT 7))) (sG (xL 1) false (sV (oBin .gtr .no (xL 0) (ki 1048576))) (sV (oPick (xL 2) (xK (bool true)) (xL 0)) (sG (xL 0) false (sV (oFaddr 1 (xT 6))) (sG (xL 1) false (sV (oLoad (xL 0))) (sG (xL 2) false (sC (cFn 311) [(xL 0)]) (sG (xL 3) false (sV (oUn .not (xL 0))) (sV (oPick (xL 4) (xK (bool true)) (xL 0)) (sG (xL 0) false (sV (oFaddr 1 (xT 6))) (sG (xL 1) false (sV (oLoad (xL 0))) (sG (xL 2) false (sV (oIaddr 1 (xL 0) (ki 0))) (sG (xL 3) false (sV (oLoad (xL 0))) (sG (xL 4) false (sV (oBin .lss .no (xL 0) (ki 0))) (sV (oPick (xL 5) (xK (bool true)) (xL 0)) (sG (xL 0) false (sV (oFaddr 1 (xT 6))) (sG (xL 1) false (sV (oLoad (xL 0))) (sG (xL 2) false (sV (oFaddr 1 (xT 6))) (sG (xL 3) false (sV (oLoad (xL 0))) (sG (xL 4) false (sV (oLenL (xL 0))) (sG (xL 5) false (sV (oBin .sub .no (xL 0) (ki 1))) (sG (xL 6) false (sV (oIaddr 1 (xL 4) (xL 0))) (sG (xL 7) false (sV (oLoad (xL 0))) (sG (xL 8) false (sV (oBin .gtr .no (xL 0) (ki 1048576))) (sV (oPick (xL 9) (xK (bool true)) (xL 0)) k))))))))))))))))))))))))))))))))))))) (xL 0) (kSeq (kReg (sS 1 (xK (bool false)) sEnd))
 kRet)
 kSkip)
 (kReg (sV (oFaddr 0 (xT 6)) (sV (oLoad (xL 0)) (sS 8 (xL 0) sEnd))))))))
 (kReg (sV (oBin .add .no (xT 3) (ki 1)) (sS 3 (xL 0) sEnd)))))))))
 (kSeq (kReg (sS 1 (xK (bool true)) sEnd))
 kRet))))
theorem t247 : FF d247 Tryz.f247 a247 [(.t 1)] := ff Tryz.func247 (by kernel_rfl)
def x247 : XFn := .go a247 1 pd8 [(.t 1)]
def d248 : FD := ⟨248, 2, [4, 3, 2]⟩
def a248 : CodeF := (kSeq (kReg (sH (oBox 229 1 (xT 0)) (sS 4 (xL 0) (sH (oBox 3 1 (xT 1)) (sS 3 (xL 0) (sS 2 (xK nilfunc) sEnd))))))
 (kSeq (kRegC (fun k => (sV (oLoad (xT 3)) (sV (oBin .lss .no (xL 0) (ki 1)) k))) (xL 0) (kReg (sV (oMkif 9 (xK (str [99, 97, 110, 110, 111, 116, 32, 98, 101, 32, 108, 101, 115, 115, 32, 116, 104, 97, 110, 32, 49]))) (sPan (xL 0))))
 kSkip)
 (kSeq (kReg (sV (oMkfn 312 [] [(xT 4), (xT 3)]) (sS 2 (xL 0) sEnd)))
 kRet)))
theorem t248 : FF d248 Tryz.f248 a248 [(.t 2)] := ff Tryz.func248 (by kernel_rfl)
def x248 : XFn := .go a248 2 pd3 [(.t 2)]
def d249 : FD := ⟨249, 2, [4, 14, 15, 16, 13, 9, 5, 6, 38, 39, 40, 37, 10, 12, 7]⟩
def a249 : CodeF := (kSeq (kReg (sS 2 (xK nils) sEnd))
 (kSeq (kReg (sS 8 (xK nils) (sS 9 (xK nils) (sS 16 (xK nils) sEnd))))
 (kSeq (kSeq (kReg (sS 6 (xT 0) (sV (oLenL (xT 6)) (sS 3 (xL 0) (sS 4 (ki 0) sEnd)))))
 (kBlock 0 (kLoop (kSeq (kReg (sV (oBin .lss .no (xT 4) (xT 3)) (sS 5 (xL 0) sEnd)))
 (kSeq (kCond (xT 5) kSkip
 (kExit 0))
 (kSeq (kBlock 1 (kSeq (kReg (sV (oIaddr 2 (xT 6) (xT 4)) (sV (oLoadN 2 (xL 0)) (sH (oAlloc 233 2 [(int .i64 (.ofNat 0)), nils]) (sS 7 (xL 0) (sH (oStore 2 (xT 7) (xL 1)) sEnd))))))
 (kSeq (kReg (sV (oMov (xT 8)) (sV (oFaddr 0 (xT 7)) (sV (oLoad (xL 0)) (sV (oBin .sub .no (xL 0) (xT 1)) (sV (oBin .sub .no (xL 0) (ki 1)) (sH (oBsl 2 1 1 [(int .i64 (.ofNat 0))] [(0, 1, (xL 0))]) (sH (oApp 2 1 (xL 5) (xL 0)) (sS 8 (xL 0) sEnd)))))))))
 (kSeq (kReg (sV (oFaddr 0 (xT 7)) (sV (oLoad (xL 0)) (sS 1 (xL 0) sEnd))))
 (kSeq (kReg (sV (oMov (xT 9)) (sV (oFaddr 1 (xT 7)) (sV (oLoad (xL 0)) (sV (oLenL (xL 0)) (sV (oBin .sub .no (xL 0) (ki 1)) (sH (oBsl 2 1 1 [(int .i64 (.ofNat 0))] [(0, 1, (xL 0))]) (sH (oApp 2 1 (xL 5) (xL 0)) (sS 9 (xL 0) sEnd)))))))))
 (kSeq (kReg (sS 14 (ki 0) sEnd))
 (kSeq (kReg (sV (oFaddr 1 (xT 7)) (sV (oLoad (xL 0)) (sS 13 (xL 0) (sV (oLenL (xT 13)) (sS 10 (xL 0) (sS 11 (ki 0) sEnd)))))))
 (kBlock 2 (kLoop (kSeq (kReg (sV (oBin .lss .no (xT 11) (xT 10)) (sS 12 (xL 0) sEnd)))
 (kSeq (kCond (xT 12) kSkip
 (kExit 2))
 (kSeq (kBlock 3 (kSeq (kReg (sV (oIaddr 1 (xT 13) (xT 11)) (sV (oLoad (xL 0)) (sS 15 (xL 0) sEnd))))
 (kSeq (kReg (sV (oMov (xT 16)) (sV (oBin .sub .no (xT 15) (xT 14)) (sH (oBsl 2 1 1 [(int .i64 (.ofNat 0))] [(0, 1, (xL 0))]) (sH (oApp 2 1 (xL 2) (xL 0)) (sS 16 (xL 0) sEnd))))))
 (kReg (sS 14 (xT 15) sEnd)))))
 (kReg (sV (oBin .add .no (xT 11) (ki 1)) (sS 11 (xL 0) sEnd)))))))))))))))
 (kReg (sV (oBin .add .no (xT 4) (ki 1)) (sS 4 (xL 0) sEnd)))))))))
 (kSeq (kReg (sC (cFn 84) [(xT 8)] (sC (cFn 84) [(xT 9)] (sC (cFn 84) [(xT 16)] (sH (oBsl 47 1 3 [nils] [(0, 1, (xL 2)), (1, 1, (xL 1)), (2, 1, (xL 0))]) (sC (cFn 171) [(xL 0)] (sS 2 (xL 0) sEnd)))))))
 kRet))))
theorem t249 : FF d249 Tryz.f249 a249 [(.t 2)] := ff Tryz.func249 (by kernel_rfl)
def x249 : XFn := .go a249 2 pd15 [(.t 2)]
def d250 : FD := ⟨250, 2, [4, 7, 8, 9, 5]⟩
def a250 : CodeF := (kSeq (kReg (sS 2 (ki 0) sEnd))
 (kSeq (kSeq (kReg (sV (oLenL (xT 0)) (sS 3 (xL 0) (sS 4 (ki 0) sEnd))))
 (kBlock 0 (kLoop (kSeq (kReg (sV (oBin .lss .no (xT 4) (xT 3)) (sS 5 (xL 0) sEnd)))
 (kSeq (kCond (xT 5) kSkip
 (kExit 0))
 (kSeq (kBlock 1 (kSeq (kReg (sS 6 (xT 4) sEnd))
 (kRegC (fun k => (sV (oIaddr 1 (xT 0) (xT 6)) (sV (oLoad (xL 0)) (sC (cVal (xT 1)) [(xL 0)] k)))) (xL 0) (kSeq (kReg (sS 2 (xT 6) sEnd))
 kRet)
 kSkip)))
 (kReg (sV (oBin .add .no (xT 4) (ki 1)) (sS 4 (xL 0) sEnd)))))))))
 (kSeq (kReg (sS 2 (xK (int .i64 (.negSucc 0))) sEnd))
 kRet)))
theorem t250 : FF d250 Tryz.f250 a250 [(.t 2)] := ff Tryz.func250 (by kernel_rfl)
def x250 : XFn := .go a250 2 pd5 [(.t 2)]
def d251 : FD := ⟨251, 1, [2]⟩
def a251 : CodeF := (kSeq (kReg (sS 1 (ki 0) sEnd))
 (kSeq (kRegC (fun k => (sV (oBin .eql .ptr (xT 0) (xK nilptr)) k)) (xL 0) (kSeq (kReg (sS 1 (ki 0) sEnd))
 kRet)
 kSkip)
 (kSeq (kReg (sV (oNilc (xT 0)) (sV (oFaddr 0 (xL 0)) (sV (oLoad (xL 0)) (sV (oLenL (xL 0)) (sS 1 (xL 0) sEnd))))))
 kRet)))
theorem t251 : FF d251 Tryz.f251 a251 [(.t 1)] := ff Tryz.func251 (by kernel_rfl)
def x251 : XFn := .go a251 1 pd1 [(.t 1)]
def d252 : FD := ⟨252, 2, [4, 15, 16, 17, 14, 7, 5]⟩
def a252 : CodeF := (kSeq (kReg (sS 2 (xK nils) sEnd))
 (kSeq (kRegC (fun k => (sV (oBin .eql .ptr (xT 0) (xK nilptr)) k)) (xL 0) (kSeq (kReg (sS 2 (xK nils) sEnd))
 kRet)
 kSkip)
 (kSeq (kReg (sS 8 (xK nils) sEnd))
 (kSeq (kSeq (kReg (sV (oNilc (xT 0)) (sV (oFaddr 0 (xL 0)) (sC (cFn 253) [(xL 0), (xT 1)] (sS 6 (xL 0) (sV (oLenL (xT 6)) (sS 3 (xL 0) (sS 4 (ki 0) sEnd))))))))
 (kBlock 0 (kLoop (kSeq (kReg (sV (oBin .lss .no (xT 4) (xT 3)) (sS 5 (xL 0) sEnd)))
 (kSeq (kCond (xT 5) kSkip
 (kExit 0))
 (kSeq (kBlock 1 (kSeq (kReg (sV (oIaddr 1 (xT 6) (xT 4)) (sV (oLoad (xL 0)) (sS 7 (xL 0) sEnd))))
 (kReg (sV (oMov (xT 8)) (sH (oBsl 3 1 1 [(int .i64 (.ofNat 0))] [(0, 1, (xT 7))]) (sH (oApp 3 1 (xL 1) (xL 0)) (sS 8 (xL 0) sEnd)))))))
 (kReg (sV (oBin .add .no (xT 4) (ki 1)) (sS 4 (xL 0) sEnd)))))))))
 (kSeq (kReg (sS 2 (xT 8) sEnd))
 kRet)))))
theorem t252 : FF d252 Tryz.f252 a252 [(.t 2)] := ff Tryz.func252 (by kernel_rfl)
def x252 : XFn := .go a252 2 pd7 [(.t 2)]
def d253 : FD := ⟨253, 2, [4, 5]⟩
def a253 : CodeF := (kSeq (kReg (sS 2 (xK nils) sEnd))
 (kSeq (kRegC (fun k => (sV (oBin .lss .no (xT 1) (ki 0)) (sG (xL 0) false (sV (oMov (xT 1))) (sG (xL 1) false (sV (oMov (xT 0))) (sG (xL 2) false (sC (cFn 251) [(xL 0)]) (sG (xL 3) false (sV (oBin .geq .no (xL 2) (xL 0))) (sV (oPick (xL 4) (xK (bool true)) (xL 0)) k))))))) (xL 0) (kSeq (kReg (sS 2 (xK nils) sEnd))
 kRet)
 kSkip)
 (kSeq (kReg (sS 3 (ki 0) sEnd))
 (kSeq (kRegC (fun k => (sV (oBin .gtr .no (xT 1) (ki 0)) k)) (xL 0) (kReg (sV (oNilc (xT 0)) (sV (oFaddr 0 (xL 0)) (sV (oLoad (xL 0)) (sV (oBin .sub .no (xT 1) (ki 1)) (sV (oIaddr 1 (xL 1) (xL 0)) (sV (oLoad (xL 0)) (sS 3 (xL 0) sEnd))))))))
 kSkip)
 (kSeq (kDraw [(.v (oMov (xT 0)), none), (.v (oNilc (xL 0)), none), (.v (oFaddr 1 (xL 0)), none), (.v (oLoad (xL 0)), none), (.v (oMov (xT 3)), none), (.v (oMov (xT 0)), none), (.v (oNilc (xL 0)), none), (.v (oFaddr 0 (xL 0)), none), (.v (oLoad (xL 0)), none), (.v (oMov (xT 1)), none), (.v (oIaddr 1 (xL 1) (xL 0)), none), (.v (oLoad (xL 0)), none), (.v (oSlc 1 (xL 8) (some (xL 7)) (some (xL 0)) none), none), (.v (oMov (xL 0)), none)] 0 [none, none, (some 0), none] [])
 kRet)))))
theorem t253 : FF d253 Tryz.f253 a253 [(.t 2)] := ff Tryz.func253 (by kernel_rfl)
def x253 : XFn := .go a253 2 pd2 [(.t 2)]
def d254 : FD := ⟨254, 2, []⟩
def a254 : CodeF := (kReg (sV (oLoad (xT 1)) (sH (oApp 5 1 (xL 0) (xT 0)) (sH (oStore 1 (xT 1) (xL 0)) sEnd))))
theorem t254 : FF d254 Tryz.f254 a254 [] := ff Tryz.func254 (by kernel_rfl)
def x254 : XFn := .go a254 2 pd0 []
def d255 : FD := ⟨255, 1, [2]⟩
def a255 : CodeF := (kSeq (kReg (sS 1 (xK nils) sEnd))
 (kSeq (kRegC (fun k => (sV (oBin .eql .slice (xT 0) (xK nils)) k)) (xL 0) (kSeq (kReg (sS 1 (xK nils) sEnd))
 kRet)
 kSkip)
 (kSeq (kReg (sH (oBsl 9 1 0 [(str [])] []) (sH (oApp 9 1 (xL 0) (xT 0)) (sS 1 (xL 0) sEnd))))
 kRet)))
theorem t255 : FF d255 Tryz.f255 a255 [(.t 1)] := ff Tryz.func255 (by kernel_rfl)
def x255 : XFn := .go a255 1 pd1 [(.t 1)]
def d256 : FD := ⟨256, 2, [4]⟩
def a256 : CodeF := (kSeq (kReg (sS 2 (xK (bool false)) sEnd))
 (kSeq (kReg (sC (cFn 313) [(xT 0)] (sG (xL 0) true (sV (oMov (xT 1))) (sG (xL 1) true (sC (cFn 313) [(xL 0)]) (sG (xL 2) true (sV (oUn .not (xL 0))) (sV (oPick (xL 3) (xL 0) (xK (bool false))) (sG (xL 0) false (sV (oMov (xT 0))) (sG (xL 1) false (sV (oMov (xT 1))) (sG (xL 2) false (sV (oBin .lss .no (xL 1) (xL 0))) (sV (oPick (xL 3) (xK (bool true)) (xL 0)) (sS 2 (xL 0) sEnd)))))))))))
 kRet))
theorem t256 : FF d256 Tryz.f256 a256 [(.t 2)] := ff Tryz.func256 (by kernel_rfl)
def x256 : XFn := .go a256 2 pd1 [(.t 2)]
def d257 : FD := ⟨257, 1, [2]⟩
def a257 : CodeF := (kSeq (kReg (sS 1 (xK (bool false)) sEnd))
 (kSeq (kReg (sV (oBin .neq .no (xT 0) (xT 0)) (sS 1 (xL 0) sEnd)))
 kRet))
theorem t257 : FF d257 Tryz.f257 a257 [(.t 1)] := ff Tryz.func257 (by kernel_rfl)
def x257 : XFn := .go a257 1 pd1 [(.t 1)]
def d258 : FD := ⟨258, 2, [4]⟩
def a258 : CodeF := (kSeq (kReg (sV (oLenL (xT 0)) (sS 2 (xL 0) sEnd)))
 (kReg (sV (oConv .u64 (xT 2)) (sC (cFn 237) [(xL 0)] (sC (cFn 314) [(xT 0), (ki 0), (xT 2), (xL 0), (xT 1)] sEnd)))))
theorem t258 : FF d258 Tryz.f258 a258 [] := ff Tryz.func258 (by kernel_rfl)
def x258 : XFn := .go a258 2 pd1 []
def d259 : FD := ⟨259, 1, [2, 1]⟩
def a259 : CodeF := (kSeq (kReg (sH (oBox 3 1 (xT 0)) (sS 2 (xL 0) (sS 1 (xK nilfunc) sEnd))))
 (kSeq (kReg (sV (oMkfn 315 [] [(xT 2)]) (sS 1 (xL 0) sEnd)))
 kRet))
theorem t259 : FF d259 Tryz.f259 a259 [(.t 1)] := ff Tryz.func259 (by kernel_rfl)
def x259 : XFn := .go a259 1 pd2 [(.t 1)]
def d260 : FD := ⟨260, 2, [4, 13, 14, 15, 7, 32, 33, 34, 31, 11, 9, 8, 6, 12, 5]⟩
def a260 : CodeF := (kSeq (kReg (sS 2 (ki 0) sEnd))
 (kSeq (kReg (sS 16 (ki 0) (sS 14 (xK (int .u64 (.ofNat 0))) sEnd)))
 (kSeq (kSeq (kReg (sS 3 (xT 0) (sS 4 (ki 0) sEnd)))
 (kBlock 0 (kLoop (kSeq (kReg (sV (oBin .lss .no (xT 4) (xT 3)) (sS 5 (xL 0) sEnd)))
 (kSeq (kCond (xT 5) kSkip
 (kExit 0))
 (kSeq (kBlock 1 (kSeq (kReg (sS 6 (xT 4) sEnd))
 (kSeq (kDraw [(.v (oMov (xT 1)), none), (.v (oIaddr 2 (xL 0) (ki 0)), none), (.v (oFaddr 1 (xL 0)), none), (.v (oLoad (xL 0)), none), (.v (oMov (xT 6)), none), (.v (oIaddr 1 (xL 1) (xL 0)), none), (.v (oLoad (xL 0)), none), (.v (oMov (xT 1)), none), (.v (oIaddr 2 (xL 0) (ki 0)), none), (.v (oFaddr 1 (xL 0)), none), (.v (oLoad (xL 0)), none), (.v (oMov (xT 6)), none), (.v (oIaddr 1 (xL 1) (xL 0)), none), (.v (oLoad (xL 0)), none), (.v (oMov (xL 7)), none), (.v (oMov (xL 1)), none)] 0 [none, none, none, none, none, none, none, none, none, none, none, none, (some 0), (some 1), none, none, none] [])
 (kSeq (kSeq (kReg (sS 10 (xT 1) (sV (oLenL (xT 10)) (sS 7 (xL 0) (sS 8 (ki 0) sEnd)))))
 (kBlock 2 (kLoop (kSeq (kReg (sV (oBin .lss .no (xT 8) (xT 7)) (sS 9 (xL 0) sEnd)))
 (kSeq (kCond (xT 9) kSkip
 (kExit 2))
 (kSeq (kBlock 3 (kSeq (kReg (sV (oIaddr 2 (xT 10) (xT 8)) (sV (oLoadN 2 (xL 0)) (sH (oAlloc 242 2 [(int .i64 (.ofNat 0)), nils]) (sS 11 (xL 0) (sH (oStore 2 (xT 11) (xL 1)) sEnd))))))
 (kDraw [(.v (oMov (xT 13)), none), (.v (oFaddr 1 (xT 11)), none), (.v (oLoad (xL 0)), none), (.v (oMov (xT 6)), none), (.v (oIaddr 1 (xL 1) (xL 0)), none), (.v (oLoad (xL 0)), none), (.v (oMm false (xL 5) [(xL 0)]), none), (.v (oMov (xT 12)), none), (.v (oFaddr 1 (xT 11)), none), (.v (oLoad (xL 0)), none), (.v (oMov (xT 6)), none), (.v (oIaddr 1 (xL 1) (xL 0)), none), (.v (oLoad (xL 0)), none), (.v (oMm true (xL 5) [(xL 0)]), none), (.v (oMov (xL 7)), none), (.v (oMov (xL 1)), none)] 0 [none, none, none, none, none, none, none, none, none, none, none, none, (some 0), (some 1), none, none, none] [])))
 (kReg (sV (oBin .add .no (xT 8) (ki 1)) (sS 8 (xL 0) sEnd)))))))))
 (kSeq (kReg (sV (oConv .u64 (xT 12)) (sV (oConv .u64 (xT 13)) (sV (oBin .sub .no (xL 1) (xL 0)) (sS 15 (xL 0) sEnd)))))
 (kRegC (fun k => (sV (oBin .gtr .no (xT 15) (xT 14)) k)) (xL 0) (kReg (sS 16 (xT 6) (sS 14 (xT 15) sEnd)))
 kSkip))))))
 (kReg (sV (oBin .add .no (xT 4) (ki 1)) (sS 4 (xL 0) sEnd)))))))))
 (kSeq (kReg (sS 2 (xT 16) sEnd))
 kRet))))
theorem t260 : FF d260 Tryz.f260 a260 [(.t 2)] := ff Tryz.func260 (by kernel_rfl)
def x260 : XFn := .go a260 2 pd15 [(.t 2)]
def d261 : FD := ⟨261, 1, [2, 1, 10, 11, 12, 5, 6, 3, 4, 8]⟩
def a261 : CodeF := (kSeq (kReg (sH (oBox 9 1 (xT 0)) (sS 2 (xL 0) (sS 1 (xK (str [])) sEnd))))
 (kSeq (kReg (sH (oAlloc 419 2 [nilptr, nils]) (sS 8 (xL 0) sEnd)))
 (kSeq (kSeq (kReg (sV (oLoad (xT 2)) (sC (cFn 320) [(xL 0)] (sS 3 (xL 0) sEnd))))
 (kBlock 0 (kRf 33562810 [4, 5] (xT 3))))
 (kSeq (kReg (sC (cFn 268) [(xT 8)] (sS 1 (xL 0) sEnd)))
 kRet))))
theorem t261 : FF d261 Tryz.f261 a261 [(.t 1)] := ff Tryz.func261 (by kernel_rfl)
def x261 : XFn := .go a261 1 pd10 [(.t 1)]
def r261x0 : CodeF × CodeF := ((kSeq (kReg (sS 9 (xT 4) sEnd))
 (kReg (sS 6 (xT 5) sEnd))),
 (kBlock 1 (kSeq (kSeq (kReg (sC (cFn 321) [(xT 6)] (sS 7 (xL 0) sEnd)))
 (kRegC (fun k => (sV (oBin .neq .no (xT 7) (xT 6)) k)) (xL 0) (kSeq (kReg (sC (cFn 322) [(xT 8), (xT 7)] sEnd))
 (kExit 1))
 kSkip))
 (kSeq (kReg (sV (oLoad (xT 2)) (sC (cFn 265) [(xL 0), (xT 9)] (sV (oExt 0 (xL 0)) (sV (oExt 1 (xL 1)) (sS 10 (xL 0) sEnd))))))
 (kReg (sV (oLoad (xT 2)) (sV (oBin .add .no (xT 9) (xT 10)) (sV (oSlcs (xL 1) (some (xT 9)) (some (xL 0))) (sC (cFn 267) [(xT 8), (xL 0)] sEnd)))))))))
theorem u261x0 : RfFact Tryz.prog d261 Tryz.f261 33562810 r261x0 := ⟨Tryz.func261, by kernel_rfl⟩
def d262 : FD := ⟨262, 1, [2, 3, 4]⟩
def a262 : CodeF := (kSeq (kReg (sS 1 (xK (bool false)) sEnd))
 (kSeq (kSeq (kReg (sS 2 (xT 0) sEnd))
 (kBlock 0 (kSeq (kRegC (fun k => (sV (oBin .eql .no (xT 2) (xK (str [97]))) (sS 3 (xL 0) k))) (xT 3) kSkip
 (kRegC (fun k => (sV (oBin .eql .no (xT 2) (xK (str [97, 110]))) (sS 3 (xL 0) k))) (xT 3) kSkip
 (kRegC (fun k => (sV (oBin .eql .no (xT 2) (xK (str [97, 110, 100]))) (sS 3 (xL 0) k))) (xT 3) kSkip
 (kRegC (fun k => (sV (oBin .eql .no (xT 2) (xK (str [97, 114, 101]))) (sS 3 (xL 0) k))) (xT 3) kSkip
 (kRegC (fun k => (sV (oBin .eql .no (xT 2) (xK (str [97, 115]))) (sS 3 (xL 0) k))) (xT 3) kSkip
 (kRegC (fun k => (sV (oBin .eql .no (xT 2) (xK (str [97, 116]))) (sS 3 (xL 0) k))) (xT 3) kSkip
 (kRegC (fun k => (sV (oBin .eql .no (xT 2) (xK (str [98, 101]))) (sS 3 (xL 0) k))) (xT 3) kSkip
 (kRegC (fun k => (sV (oBin .eql .no (xT 2) (xK (str [98, 117, 116]))) (sS 3 (xL 0) k))) (xT 3) kSkip
 (kRegC (fun k => (sV (oBin .eql .no (xT 2) (xK (str [98, 121]))) (sS 3 (xL 0) k))) (xT 3) kSkip
 (kRegC (fun k => (sV (oBin .eql .no (xT 2) (xK (str [102, 111, 114]))) (sS 3 (xL 0) k))) (xT 3) kSkip
 (kRegC (fun k => (sV (oBin .eql .no (xT 2) (xK (str [105, 102]))) (sS 3 (xL 0) k))) (xT 3) kSkip
 (kRegC (fun k => (sV (oBin .eql .no (xT 2) (xK (str [105, 110]))) (sS 3 (xL 0) k))) (xT 3) kSkip
 (kRegC (fun k => (sV (oBin .eql .no (xT 2) (xK (str [105, 110, 116, 111]))) (sS 3 (xL 0) k))) (xT 3) kSkip
 (kRegC (fun k => (sV (oBin .eql .no (xT 2) (xK (str [105, 115]))) (sS 3 (xL 0) k))) (xT 3) kSkip
 (kRegC (fun k => (sV (oBin .eql .no (xT 2) (xK (str [105, 116]))) (sS 3 (xL 0) k))) (xT 3) kSkip
 (kRegC (fun k => (sV (oBin .eql .no (xT 2) (xK (str [110, 111]))) (sS 3 (xL 0) k))) (xT 3) kSkip
 (kRegC (fun k => (sV (oBin .eql .no (xT 2) (xK (str [110, 111, 116]))) (sS 3 (xL 0) k))) (xT 3) kSkip
 (kRegC (fun k => (sV (oBin .eql .no (xT 2) (xK (str [111, 102]))) (sS 3 (xL 0) k))) (xT 3) kSkip
 (kRegC (fun k => (sV (oBin .eql .no (xT 2) (xK (str [111, 110]))) (sS 3 (xL 0) k))) (xT 3) kSkip
 (kRegC (fun k => (sV (oBin .eql .no (xT 2) (xK (str [111, 114]))) (sS 3 (xL 0) k))) (xT 3) kSkip
 (kRegC (fun k => (sV (oBin .eql .no (xT 2) (xK (str [115, 117, 99, 104]))) (sS 3 (xL 0) k))) (xT 3) kSkip
 (kRegC (fun k => (sV (oBin .eql .no (xT 2) (xK (str [116, 104, 97, 116]))) (sS 3 (xL 0) k))) (xT 3) kSkip
 (kRegC (fun k => (sV (oBin .eql .no (xT 2) (xK (str [116, 104, 101]))) (sS 3 (xL 0) k))) (xT 3) kSkip
 (kRegC (fun k => (sV (oBin .eql .no (xT 2) (xK (str [116, 104, 101, 105, 114]))) (sS 3 (xL 0) k))) (xT 3) kSkip
 (kRegC (fun k => (sV (oBin .eql .no (xT 2) (xK (str [116, 104, 101, 110]))) (sS 3 (xL 0) k))) (xT 3) kSkip
 (kRegC (fun k => (sV (oBin .eql .no (xT 2) (xK (str [116, 104, 101, 114, 101]))) (sS 3 (xL 0) k))) (xT 3) kSkip
 (kRegC (fun k => (sV (oBin .eql .no (xT 2) (xK (str [116, 104, 101, 115, 101]))) (sS 3 (xL 0) k))) (xT 3) kSkip
 (kRegC (fun k => (sV (oBin .eql .no (xT 2) (xK (str [116, 104, 101, 121]))) (sS 3 (xL 0) k))) (xT 3) kSkip
 (kRegC (fun k => (sV (oBin .eql .no (xT 2) (xK (str [116, 104, 105, 115]))) (sS 3 (xL 0) k))) (xT 3) kSkip
 (kRegC (fun k => (sV (oBin .eql .no (xT 2) (xK (str [116, 111]))) (sS 3 (xL 0) k))) (xT 3) kSkip
 (kRegC (fun k => (sV (oBin .eql .no (xT 2) (xK (str [119, 97, 115]))) (sS 3 (xL 0) k))) (xT 3) kSkip
 (kRegC (fun k => (sV (oBin .eql .no (xT 2) (xK (str [119, 105, 108, 108]))) (sS 3 (xL 0) k))) (xT 3) kSkip
 (kReg (sV (oBin .eql .no (xT 2) (xK (str [119, 105, 116, 104]))) (sS 3 (xL 0) sEnd)))))))))))))))))))))))))))))))))))
 (kCond (xT 3) (kSeq (kReg (sS 1 (xK (bool true)) sEnd))
 kRet)
 kSkip))))
 (kSeq (kReg (sS 1 (xK (bool false)) sEnd))
 kRet)))
theorem t262 : FF d262 Tryz.f262 a262 [(.t 1)] := ff Tryz.func262 (by kernel_rfl)
def x262 : XFn := .go a262 1 pd3 [(.t 1)]
def d263 : FD := ⟨263, 2, [3, 2, 4, 6, 7, 5]⟩
def a263 : CodeF := (kSeq (kReg (sH (oBox 314 4 (xT 0)) (sS 3 (xL 0) (sS 2 (xK nils) sEnd))))
 (kSeq (kReg (sV (oFaddr 0 (xT 3)) (sV (oLoad (xL 0)) (sC (cFn 264) [(xL 0)] (sS 4 (xL 0) sEnd)))))
 (kSeq (kRegC (fun k => (sV (oLenL (xT 4)) (sV (oBin .sub .no (xL 0) (ki 1)) (sV (oLoad (xT 1)) (sV (oBin .leq .no (xL 1) (xL 0)) k))))) (xL 0) (kSeq (kReg (sV (oLoadN 4 (xT 3)) (sH (oBsl 314 4 1 [(str []), (int .i64 (.ofNat 0)), (int .i64 (.ofNat 0)), (int .i64 (.ofNat 0))] [(0, 4, (xL 0))]) (sS 2 (xL 0) sEnd))))
 kRet)
 kSkip)
 (kSeq (kReg (sS 7 (xK nils) sEnd))
 (kSeq (kSeq (kReg (sS 5 (ki 0) sEnd))
 (kBlock 0 (kLoop (kSeq (kRegC (fun k => (sV (oLoad (xT 1)) (sV (oBin .add .no (xT 5) (xL 0)) (sV (oLenL (xT 4)) (sV (oBin .lss .no (xL 1) (xL 0)) k))))) (xL 0) kSkip
 (kExit 0))
 (kSeq (kBlock 1 (kSeq (kReg (sV (oLoadN 4 (xT 3)) (sH (oAlloc 314 4 [(str []), (int .i64 (.ofNat 0)), (int .i64 (.ofNat 0)), (int .i64 (.ofNat 0))]) (sS 6 (xL 0) (sH (oStore 4 (xT 6) (xL 1)) sEnd)))))
 (kSeq (kDraw [(.v (oFaddr 0 (xT 3)), none), (.v (oLoad (xL 0)), none), (.v (oMov (xT 4)), none), (.v (oMov (xT 5)), none), (.v (oIaddr 1 (xL 1) (xL 0)), none), (.v (oLoad (xL 0)), none), (.v (oMov (xT 4)), none), (.v (oMov (xT 5)), none), (.v (oLoad (xT 1)), none), (.v (oBin .add .no (xL 1) (xL 0)), none), (.v (oIaddr 1 (xL 3) (xL 0)), none), (.v (oLoad (xL 0)), none), (.v (oSlcs (xL 10) (some (xL 6)) (some (xL 0))), none), (.v (oFaddr 0 (xT 6)), none), (.h (oStore 1 (xL 0) (xL 1)), none)] 0 [none, none, none, none, none, none, none, none] [])
 (kReg (sV (oMov (xT 7)) (sV (oLoadN 4 (xT 6)) (sH (oBsl 314 4 1 [(str []), (int .i64 (.ofNat 0)), (int .i64 (.ofNat 0)), (int .i64 (.ofNat 0))] [(0, 4, (xL 0))]) (sH (oApp 314 4 (xL 2) (xL 0)) (sS 7 (xL 0) sEnd)))))))))
 (kReg (sV (oMov (xT 5)) (sV (oBin .add .no (xL 0) (ki 1)) (sS 5 (xL 0) sEnd)))))))))
 (kSeq (kReg (sS 2 (xT 7) sEnd))
 kRet))))))
theorem t263 : FF d263 Tryz.f263 a263 [(.t 2)] := ff Tryz.func263 (by kernel_rfl)
def x263 : XFn := .go a263 2 pd6 [(.t 2)]
def d264 : FD := ⟨264, 1, [2, 6, 7, 8, 3, 4]⟩
def a264 : CodeF := (kSeq (kReg (sS 1 (xK nils) sEnd))
 (kSeq (kReg (sH (oAlloc 40 1 [nils]) (sS 5 (xL 0) sEnd)))
 (kSeq (kSeq (kReg (sC (cFn 320) [(xT 0)] (sS 2 (xL 0) sEnd)))
 (kBlock 0 (kRf 33562906 [3, 4] (xT 2))))
 (kSeq (kReg (sV (oLoad (xT 5)) (sV (oLenS (xT 0)) (sH (oBsl 3 1 1 [(int .i64 (.ofNat 0))] [(0, 1, (xL 0))]) (sH (oApp 3 1 (xL 2) (xL 0)) (sS 1 (xL 0) sEnd))))))
 kRet))))
theorem t264 : FF d264 Tryz.f264 a264 [(.t 1)] := ff Tryz.func264 (by kernel_rfl)
def x264 : XFn := .go a264 1 pd6 [(.t 1)]
def r264x0 : CodeF × CodeF := ((kReg (sS 6 (xT 3) sEnd)),
 (kBlock 1 (kReg (sV (oLoad (xT 5)) (sH (oBsl 3 1 1 [(int .i64 (.ofNat 0))] [(0, 1, (xT 6))]) (sH (oApp 3 1 (xL 1) (xL 0)) (sH (oStore 1 (xT 5) (xL 0)) sEnd)))))))
theorem u264x0 : RfFact Tryz.prog d264 Tryz.f264 33562906 r264x0 := ⟨Tryz.func264, by kernel_rfl⟩
def d265 : FD := ⟨265, 2, [4, 5]⟩
def a265 : CodeF := (kSeq (kReg (sS 2 (xK (int .i32 (.ofNat 0))) (sS 3 (ki 0) sEnd)))
 (kSeq (kRegC (fun k => (sV (oBin .lss .no (xT 1) (ki 0)) (sG (xL 0) false (sV (oMov (xT 1))) (sG (xL 1) false (sV (oMov (xT 0))) (sG (xL 2) false (sV (oLenS (xL 0))) (sG (xL 3) false (sV (oBin .geq .no (xL 2) (xL 0))) (sV (oPick (xL 4) (xK (bool true)) (xL 0)) k))))))) (xL 0) (kSeq (kReg (sS 2 (xK (int .i32 (.ofNat 0))) (sS 3 (ki 0) sEnd)))
 kRet)
 kSkip)
 (kSeq (kReg (sV (oSlcs (xT 0) (some (xT 1)) none) (sC (cFn 323) [(xL 0)] (sV (oExt 0 (xL 0)) (sV (oExt 1 (xL 1)) (sS 2 (xL 1) (sS 3 (xL 0) sEnd)))))))
 kRet)))
theorem t265 : FF d265 Tryz.f265 a265 [(.t 2), (.t 3)] := ff Tryz.func265 (by kernel_rfl)
def x265 : XFn := .go a265 2 pd2 [(.t 2), (.t 3)]
def d266 : FD := ⟨266, 1, [2, 3, 10]⟩
def a266 : CodeF := (kSeq (kReg (sS 1 (xK (bool false)) sEnd))
 (kSeq (kBlock 0 (kSeq (kBlock 2 (kBlock 1 (kSeq (kSeq (kSeq (kRegC (fun k => (sC (cFn 324) [(xT 0), (xK (int .i32 (.ofNat 768))), (xK (int .i32 (.ofNat 879)))] (sS 2 (xL 0) k))) (xT 2) kSkip
 (kRegC (fun k => (sC (cFn 324) [(xT 0), (xK (int .i32 (.ofNat 1155))), (xK (int .i32 (.ofNat 1161)))] (sS 2 (xL 0) k))) (xT 2) kSkip
 (kReg (sC (cFn 324) [(xT 0), (xK (int .i32 (.ofNat 1425))), (xK (int .i32 (.ofNat 1469)))] (sS 2 (xL 0) sEnd)))))
 (kCond (xT 2) (kExit 1)
 kSkip))
 (kSeq (kRegC (fun k => (sC (cFn 324) [(xT 0), (xK (int .i32 (.ofNat 1611))), (xK (int .i32 (.ofNat 1631)))] (sS 3 (xL 0) k))) (xT 3) kSkip
 (kRegC (fun k => (sV (oBin .eql .no (xT 0) (xK (int .i32 (.ofNat 2364)))) (sS 3 (xL 0) k))) (xT 3) kSkip
 (kRegC (fun k => (sC (cFn 324) [(xT 0), (xK (int .i32 (.ofNat 8400))), (xK (int .i32 (.ofNat 8432)))] (sS 3 (xL 0) k))) (xT 3) kSkip
 (kReg (sC (cFn 324) [(xT 0), (xK (int .i32 (.ofNat 65056))), (xK (int .i32 (.ofNat 65071)))] (sS 3 (xL 0) sEnd))))))
 (kCond (xT 3) (kExit 2)
 kSkip)))
 (kExit 0))))
 (kSeq (kSeq (kReg (sS 1 (xK (bool true)) sEnd))
 kRet)
 (kExit 0))))
 (kSeq (kReg (sS 1 (xK (bool false)) sEnd))
 kRet)))
theorem t266 : FF d266 Tryz.f266 a266 [(.t 1)] := ff Tryz.func266 (by kernel_rfl)
def x266 : XFn := .go a266 1 pd3 [(.t 1)]
end
end Go.Proofs.YtohoankmbhlafabGreatDoor
