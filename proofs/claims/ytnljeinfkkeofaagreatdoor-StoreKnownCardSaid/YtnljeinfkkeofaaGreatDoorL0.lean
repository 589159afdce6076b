import Derived.Calls
import Derived.Great.BuildSlice
import Derived.Great.FillDense
import Derived.Laws.BytesArg
import Derived.Laws.MakeOwn
import Derived.Laws.Sem
import Derived.Laws.Strings
import Derived.Laws.World
import Derived.Lib.LaidTab
import Derived.Lib.UnsafeStr
import Derived.OpenShut
import Derived.Orders
import Derived.ProofKit
import Derived.WalkKit
import GoSem.ClaimGoes
import GoSem.Dispatch
import GoSem.Step
/- An interpreter of the machine, and the proof that what it finds the machine does: part 0. -/
set_option linter.unusedSimpArgs false
set_option linter.unusedVariables false
set_option linter.unusedSectionVars false
set_option linter.unnecessarySimpa false
set_option linter.deprecated false
namespace Go.Ai

inductive ACap where
  | ex (c : Nat)
  | gr (es : Nat)
  deriving Inhabited
inductive AVal where
  | bool (b : Bool)
  | int (k : IntKind) (n : Int)
  | str (s : List Nat)
  | ptr (b o : Nat)
  | nilptr
  | slice (b o n : Nat) (c : ACap)
  | emp
  | nils
  | map (r : Nat)
  | nilmap
  | func (fn : Fn) (first cap : List AVal)
  | nilfunc
  | iface (t : Nat) (v : AVal)
  | nilif
  | agg (l : List AVal)
  | tup (l : List AVal)
  deriving Inhabited

inductive PT (α : Type) where
  | nil
  | node (l : PT α) (v : Option α) (r : PT α)

instance {α : Type} : Inhabited (PT α) := ⟨.nil⟩

def bitsF : Nat → Nat → List Bool
  | 0, _ => []
  | f + 1, n => match Nat.beq n 0 with
    | true => []
    | false => Nat.beq (Nat.mod n 2) 1 :: bitsF f (Nat.div n 2)
def bits (n : Nat) : List Bool := bitsF n n

def PT.getP {α : Type} : PT α → List Bool → Option α
  | .nil, _ => none
  | .node _ v _, [] => v
  | .node l _ r, b :: p => match b with
    | true => r.getP p
    | false => l.getP p
def PT.setP {α : Type} : PT α → List Bool → Option α → PT α
  | .nil, [], x => .node .nil x .nil
  | .node l _ r, [], x => .node l x r
  | .nil, b :: p, x => match b with
    | true => .node .nil none (PT.setP .nil p x)
    | false => .node (PT.setP .nil p x) none .nil
  | .node l v r, b :: p, x => match b with
    | true => .node l v (r.setP p x)
    | false => .node (l.setP p x) v r
def PT.get {α : Type} (t : PT α) (n : Nat) : Option α := t.getP (bits n)
def PT.set {α : Type} (t : PT α) (n : Nat) (x : Option α) : PT α := t.setP (bits n) x

abbrev TM := List AVal
inductive BKind where
  | own | grow | ro
inductive ADef where
  | call (fn : Fn) (args cap : List AVal)
  | mark (r : Nat)
inductive APend where
  | none | ret | exit (i : Nat)
inductive AObj where
  | cells (cs : List AVal) (el es : Nat) (kd : BKind) (fz : Bool)
  | map (es : List (AVal × AVal × Nat)) (clock : Nat)
  | iter (m : Option Nat) (since : Nat) (seen : List Nat) (last : Nat)
  | siter (s : List Nat) (pos : Nat)
  | loop (st : LoopState) (pend : APend) (tm : TM) (ps : List Nat) (id : Nat) (defs : Nat)
  | deferred (up : Bool)

structure H where
  o : PT AObj
  nx : Nat
def H.get (h : H) (b : Nat) : Option AObj := h.o.get b
def H.put (h : H) (b : Nat) (x : AObj) : H := ⟨h.o.set b (some x), h.nx⟩
def H.kill (h : H) (b : Nat) : H := ⟨h.o.set b none, h.nx⟩
def H.new (h : H) (x : AObj) : H := ⟨h.o.set h.nx (some x), Nat.succ h.nx⟩

def takeN {α : Type} : Nat → List α → Option (List α)
  | 0, _ => some []
  | _ + 1, [] => none
  | n + 1, x :: l => match takeN n l with
    | some r => some (x :: r)
    | none => none
def dropN {α : Type} : Nat → List α → Option (List α)
  | 0, l => some l
  | _ + 1, [] => none
  | n + 1, _ :: l => dropN n l
def part {α : Type} (o n : Nat) (l : List α) : Option (List α) := match dropN o l with
  | some r => takeN n r
  | none => none
def nth {α : Type} : Nat → List α → Option α
  | 0, x :: _ => some x
  | n + 1, _ :: l => nth n l
  | _, [] => none
def over {α : Type} : List α → List α → Option (List α)
  | [], l => some l
  | _ :: _, [] => none
  | x :: xs, _ :: l => match over xs l with
    | some r => some (x :: r)
    | none => none
def overAt {α : Type} : Nat → List α → List α → Option (List α)
  | 0, xs, l => over xs l
  | _ + 1, _, [] => none
  | o + 1, xs, y :: l => match overAt o xs l with
    | some r => some (y :: r)
    | none => none

def AVal.cells : AVal → Option (List AVal)
  | .agg l => some l
  | .tup _ => none
  | v => some [v]

def ilt : Int → Int → Bool
  | .ofNat a, .ofNat b => Nat.blt a b
  | .ofNat _, .negSucc _ => false
  | .negSucc _, .ofNat _ => true
  | .negSucc a, .negSucc b => Nat.blt b a
def ieq : Int → Int → Bool
  | .ofNat a, .ofNat b => Nat.beq a b
  | .negSucc a, .negSucc b => Nat.beq a b
  | _, _ => false
def ile (a b : Int) : Bool := !ilt b a
def kEq : IntKind → IntKind → Bool
  | .i8, .i8 | .i16, .i16 | .i32, .i32 | .i64, .i64 | .u8, .u8 | .u16, .u16 | .u32, .u32 | .u64, .u64 => true
  | _, _ => false
def kBits : IntKind → Nat
  | .i8 | .u8 => 8
  | .i16 | .u16 => 16
  | .i32 | .u32 => 32
  | .i64 | .u64 => 64
def kPow : IntKind → Nat
  | .i8 | .u8 => 256
  | .i16 | .u16 => 65536
  | .i32 | .u32 => 4294967296
  | .i64 | .u64 => 18446744073709551616
def kHalf : IntKind → Nat
  | .i8 => 128 | .u8 => 256
  | .i16 => 32768 | .u16 => 65536
  | .i32 => 2147483648 | .u32 => 4294967296
  | .i64 => 9223372036854775808 | .u64 => 18446744073709551616
def imod : Int → Nat → Nat
  | .ofNat a, m => Nat.mod a m
  | .negSucc a, m => Nat.sub (Nat.sub m 1) (Nat.mod a m)
def fromMod (k : IntKind) (m : Nat) : Int := match Nat.blt m (kHalf k) with
  | true => .ofNat m
  | false => Int.subNatNat m (kPow k)
def wrapA (k : IntKind) (n : Int) : Int := fromMod k (imod n (kPow k))

def lEq : List Nat → List Nat → Bool
  | [], [] => true
  | a :: x, b :: y => match Nat.beq a b with
    | true => lEq x y
    | false => false
  | _, _ => false
def lLt : List Nat → List Nat → Bool
  | _, [] => false
  | [], _ :: _ => true
  | a :: x, b :: y => match Nat.blt a b with
    | true => true
    | false => match Nat.beq a b with
      | true => lLt x y
      | false => false

def natOf : AVal → Option Nat
  | .int _ (.ofNat n) => some n
  | _ => none
def natOr (d : Nat) : Option AVal → Option Nat
  | none => some d
  | some v => natOf v

end Go.Ai

namespace Go.Ai

def cellsAt (h : H) (b o n : Nat) : Option (List AVal) := match h.get b with
  | some (.cells cs _ _ _ _) => part o n cs
  | _ => none
def cellAt (h : H) (b o : Nat) : Option AVal := match h.get b with
  | some (.cells cs _ _ _ _) => nth o cs
  | _ => none
def storeAt (h : H) (b o : Nat) (vs : List AVal) : Option H := match h.get b with
  | some (.cells cs el es kd fz) => match kd with
    | .ro => none
    | kd => match overAt o vs cs with
      | some cs => some (h.put b (.cells cs el es kd fz))
      | none => none
  | _ => none

def arith (op : BinOp) (k : IntKind) (x y : Int) : Option AVal :=
  match op with
  | .add => some (.int k (wrapA k (x + y)))
  | .sub => some (.int k (wrapA k (x - y)))
  | .mul => some (.int k (wrapA k (x * y)))
  | .quo => match ieq y 0 with
    | true => none
    | false => some (.int k (wrapA k (Int.tdiv x y)))
  | .rem => match ieq y 0 with
    | true => none
    | false => some (.int k (Int.tmod x y))
  | .and => some (.int k (fromMod k (Nat.land (imod x (kPow k)) (imod y (kPow k)))))
  | .or => some (.int k (fromMod k (Nat.lor (imod x (kPow k)) (imod y (kPow k)))))
  | .xor => some (.int k (fromMod k (Nat.xor (imod x (kPow k)) (imod y (kPow k)))))
  | .andNot => some (.int k (fromMod k (Nat.land (imod x (kPow k)) (Nat.sub (Nat.sub (kPow k) 1) (imod y (kPow k))))))
  | .eql => some (.bool (ieq x y))
  | .neq => some (.bool (!ieq x y))
  | .lss => some (.bool (ilt x y))
  | .leq => some (.bool (ile x y))
  | .gtr => some (.bool (ilt y x))
  | .geq => some (.bool (ile y x))
  | _ => none
def capS (y b : Nat) : Nat := match Nat.ble y b with
  | true => y
  | false => b
def shiftA (op : BinOp) (k : IntKind) (x : Int) (y : Int) : Option AVal :=
  match y with
  | .negSucc _ => none
  | .ofNat y =>
    match op with
    | .shl => some (.int k (wrapA k (x * Int.ofNat (Nat.pow 2 (capS y (kBits k))))))
    | .shr => some (.int k (match x with
      | .ofNat a => .ofNat (Nat.div a (Nat.pow 2 (capS y (kBits k))))
      | .negSucc a => .negSucc (Nat.div a (Nat.pow 2 (capS y (kBits k))))))
    | _ => none

inductive EqK where
  | no | bool | ptr | slice | map | func | iface (lit : Bool)
def ptrEq (h : H) (a i b j : Nat) : Option Bool := match Nat.beq a b with
  | true => some (Nat.beq i j)
  | false => match h.get a with
    | some (.cells _ _ _ .own false) => match h.get b with
      | some (.cells _ _ _ .own false) => some false
      | _ => none
    | _ => none
def isNil (n : AVal → Option Bool) (x y : AVal) : Option Bool := match n x with
  | none => none
  | some true => n y
  | some false => match n y with
    | some true => some false
    | _ => none
def nilSlice : AVal → Option Bool
  | .nils => some true
  | .slice _ _ _ _ => some false
  | .emp => some false
  | _ => none
def nilMap : AVal → Option Bool
  | .nilmap => some true
  | .map _ => some false
  | _ => none
def nilFn : AVal → Option Bool
  | .nilfunc => some true
  | .func _ _ _ => some false
  | _ => none
def nilIf : AVal → Option Bool
  | .nilif => some true
  | .iface _ _ => some false
  | _ => none
def eqPtr (h : H) : AVal → AVal → Option Bool
  | .nilptr, .nilptr => some true
  | .nilptr, .ptr _ _ => some false
  | .ptr _ _, .nilptr => some false
  | .ptr a i, .ptr b j => ptrEq h a i b j
  | _, _ => none
def eqBool : AVal → AVal → Option Bool
  | .bool a, .bool b => some (a == b)
  | _, _ => none
def eqA (h : H) (kd : EqK) (x y : AVal) : Option Bool := match kd with
  | .no => none
  | .bool => eqBool x y
  | .ptr => eqPtr h x y
  | .slice => isNil nilSlice x y
  | .map => isNil nilMap x y
  | .func => isNil nilFn x y
  | .iface lit => match isNil nilIf x y with
    | some true => match lit with
      | true => some true
      | false => none
    | r => r
def binI (op : BinOp) (k k' : IntKind) (x y : Int) : Option AVal := match op with
  | .shl => shiftA .shl k x y
  | .shr => shiftA .shr k x y
  | op => match kEq k k' with
    | true => arith op k x y
    | false => none
def binS (op : BinOp) (x y : List Nat) : Option AVal := match op with
  | .add => match Nat.ble (Nat.add x.length y.length) 9223372036854775807 with
    | true => some (.str (x ++ y))
    | false => none
  | .eql => some (.bool (lEq x y))
  | .neq => some (.bool (!lEq x y))
  | .lss => some (.bool (lLt x y))
  | .leq => some (.bool (!lLt y x))
  | .gtr => some (.bool (lLt y x))
  | .geq => some (.bool (!lLt x y))
  | _ => none
def binE (h : H) (op : BinOp) (kd : EqK) (x y : AVal) : Option AVal := match op with
  | .eql => match eqA h kd x y with
    | some b => some (.bool b)
    | none => none
  | .neq => match eqA h kd x y with
    | some b => some (.bool (!b))
    | none => none
  | _ => none
def binA (h : H) (op : BinOp) (kd : EqK) (x y : AVal) : Option AVal := match x with
  | .int k a => match y with
    | .int k' b => binI op k k' a b
    | _ => none
  | .str a => match y with
    | .str b => binS op a b
    | _ => none
  | x => binE h op kd x y
def unA (op : UnOp) : AVal → Option AVal
  | .int k n => match op with
    | .neg => some (.int k (wrapA k (0 - n)))
    | .xor => some (.int k (fromMod k (Nat.sub (Nat.sub (kPow k) 1) (imod n (kPow k)))))
    | _ => none
  | .bool b => match op with | .not => some (.bool (!b)) | _ => none
  | _ => none

def repl (n : Nat) (z : List AVal) : List AVal := match z with
  | [v] => List.replicate n v
  | _ => (List.replicate n z).flatten

def bounds (c dh : Nat) (l h m : Option AVal) : Option (Nat × Nat × Nat) :=
  match natOr c m with
  | none => none
  | some m => match natOr dh h with
    | none => none
    | some h => match natOr 0 l with
      | none => none
      | some l => match Nat.ble l h && Nat.ble h m && Nat.ble m c with
        | true => some (l, h, m)
        | false => none

def sliceA (es : Nat) (x : AVal) (l h m : Option AVal) : Option AVal :=
  match x with
  | .nils => match bounds 0 0 l h m with
    | some _ => some .nils
    | none => none
  | .emp => match bounds 0 0 l h m with
    | some _ => some .emp
    | none => none
  | .slice b o n (.ex c) => match bounds c n l h m with
    | some (l, h, m) => match Nat.beq m l with
      | true => some (.slice b o (Nat.sub h l) (.ex (Nat.sub m l)))
      | false => some (.slice b (Nat.add o (Nat.mul l es)) (Nat.sub h l) (.ex (Nat.sub m l)))
    | none => none
  | .slice b o n (.gr q) => match bounds n n l h m with
    | none => none
    | some (l, h', m') => match m with
      | some _ => match Nat.beq m' l with
        | true => some (.slice b o (Nat.sub h' l) (.ex (Nat.sub m' l)))
        | false => some (.slice b (Nat.add o (Nat.mul l es)) (Nat.sub h' l) (.ex (Nat.sub m' l)))
      | none => match Nat.blt l n with
        | true => match Nat.beq es q with
          | true => some (.slice b (Nat.add o (Nat.mul l es)) (Nat.sub h' l) (.gr q))
          | false => none
        | false => match Nat.beq l 0 with
          | true => some (.slice b o 0 (.gr q))
          | false => some .emp
  | _ => none

def sliceCells (h : H) (es : Nat) : AVal → Option (List AVal)
  | .nils => some []
  | .emp => some []
  | .slice b o n _ => cellsAt h b o (Nat.mul n es)
  | _ => none

def appendA (h : H) (el es : Nat) (x : AVal) (n : Nat) (new : List AVal) : Option (AVal × H) :=
  match x with
  | .nils => match Nat.beq n 0 with
    | true => some (.nils, h)
    | false => match Nat.ble n 16777216 with
      | true => some (.slice h.nx 0 n (.gr es), h.new (.cells new el es .grow false))
      | false => none
  | .emp => match Nat.beq n 0 with
    | true => some (.emp, h)
    | false => none
  | .slice b o len (.ex c) => match Nat.ble (Nat.add len n) c with
    | true => match storeAt h b (Nat.add o (Nat.mul len es)) new with
      | some h => some (.slice b o (Nat.add len n) (.ex c), h)
      | none => none
    | false => match Nat.ble (Nat.add len n) 16777216 with
      | true => match cellsAt h b o (Nat.mul len es) with
        | some old => some (.slice h.nx 0 (Nat.add len n) (.gr es), h.new (.cells (old ++ new) el es .grow false))
        | none => none
      | false => none
  | .slice b o len (.gr q) => match Nat.beq n 0 with
    | true => some (x, h)
    | false => match h.get b with
      | some (.cells cs el' es' .grow fz) => match Nat.beq es es' && Nat.beq el el' with
        | false => none
        | true => match part o (Nat.mul len es) cs with
          | none => none
          | some old => match Nat.ble (Nat.add o (Nat.mul (Nat.add len n) es)) cs.length with
            | true => match storeAt h b (Nat.add o (Nat.mul len es)) new with
              | some h => some (.slice b o (Nat.add len n) (.gr q), h)
              | none => none
            | false => match Nat.ble (Nat.add len n) 16777216 with
              | true => some (.slice h.nx 0 (Nat.add len n) (.gr es), (h.kill b).new (.cells (old ++ new) el es .grow fz))
              | false => none
      | _ => none
  | _ => none

inductive KeyK where
  | int | str | ptr
def keyEq (h : H) (kk : KeyK) (x y : AVal) : Option Bool := match kk with
  | .str => match x with
    | .str a => match y with
      | .str b => some (lEq a b)
      | _ => none
    | _ => none
  | .int => match x with
    | .int k a => match y with
      | .int k' b => match kEq k k' with
        | true => some (ieq a b)
        | false => none
      | _ => none
    | _ => none
  | .ptr => match x with
    | .ptr a i => match y with
      | .ptr b j => ptrEq h a i b j
      | _ => none
    | _ => none
def findA (h : H) (kk : KeyK) (k : AVal) : List (AVal × AVal × Nat) → Option (Option AVal)
  | [] => some none
  | (k', v, _) :: l => match keyEq h kk k k' with
    | none => none
    | some true => some (some v)
    | some false => findA h kk k l
def updA (h : H) (kk : KeyK) (k v : AVal) (clock : Nat) : List (AVal × AVal × Nat) → Option (List (AVal × AVal × Nat) × Nat)
  | [] => some ([(k, v, clock)], Nat.succ clock)
  | (k', v', s) :: l => match keyEq h kk k k' with
    | none => none
    | some true => some ((k, v, s) :: l, clock)
    | some false => match updA h kk k v clock l with
      | none => none
      | some (l, c) => some ((k', v', s) :: l, c)
def delA (h : H) (kk : KeyK) (k : AVal) : List (AVal × AVal × Nat) → Option (List (AVal × AVal × Nat))
  | [] => some []
  | (k', v', s) :: l => match keyEq h kk k k' with
    | none => none
    | some true => some l
    | some false => match delA h kk k l with
      | none => none
      | some l => some ((k', v', s) :: l)

def mmA (max : Bool) : AVal → List AVal → Option AVal
  | v, [] => some v
  | .int k x, .int k' y :: l => match kEq k k' with
    | false => none
    | true => mmA max (.int k (match max with
      | true => (match ilt x y with | true => y | false => x)
      | false => (match ilt y x with | true => y | false => x))) l
  | _, _ => none

def toBytes : List AVal → Option (List Nat)
  | [] => some []
  | .int .u8 (.ofNat n) :: l => match Nat.blt n 256 with
    | true => match toBytes l with
      | some r => some (n :: r)
      | none => none
    | false => none
  | _ => none
def ofBytes : List Nat → List AVal
  | [] => []
  | n :: l => .int .u8 (.ofNat n) :: ofBytes l

def lastN : List Nat → Option Nat
  | [] => none
  | [a] => some a
  | _ :: l => lastN l
def entA (s : Nat) : List (AVal × AVal × Nat) → Option (AVal × AVal)
  | [] => none
  | (k, v, s') :: l => match Nat.beq s s' with
    | true => some (k, v)
    | false => entA s l
end Go.Ai

namespace Go.Ai

abbrev Env := List AVal
abbrev Opd := TM → Env → Option AVal
def xT (i : Nat) : Opd := fun tm _ => nth i tm
def xL (i : Nat) : Opd := fun _ e => nth i e
def xK (v : AVal) : Opd := fun _ _ => some v
def ki (n : Nat) : Opd := xK (.int .i64 (.ofNat n))

inductive OR where
  | bad
  | ok (v : AVal) (h : H)
abbrev VOp := TM → Env → H → Option AVal
abbrev HOp := TM → Env → H → OR

def rdL : List Opd → TM → Env → Option (List AVal)
  | [], _, _ => some []
  | x :: l, tm, e => match x tm e with
    | none => none
    | some v => match rdL l tm e with
      | none => none
      | some r => some (v :: r)
def rdO : Option Opd → TM → Env → Option (Option AVal)
  | none, _, _ => some none
  | some x, tm, e => match x tm e with
    | none => none
    | some v => some (some v)

def oMov (x : Opd) : VOp := fun tm e _ => x tm e
def oPick (c a b : Opd) : VOp := fun tm e _ => match c tm e with
  | some (.bool true) => a tm e
  | some (.bool false) => b tm e
  | _ => none
def oBox (el es : Nat) (x : Opd) : HOp := fun tm e h => match x tm e with
  | some v => match v.cells with
    | some cs => .ok (.ptr h.nx 0) (h.new (.cells cs el es .own false))
    | none => .bad
  | none => .bad
def oAlloc (el es : Nat) (z : List AVal) : HOp := fun _ _ h => .ok (.ptr h.nx 0) (h.new (.cells z el es .own false))
def fillA (tm : TM) (e : Env) : List AVal → List (Nat × Nat × Opd) → Option (List AVal)
  | cs, [] => some cs
  | cs, (o, n, x) :: l => match x tm e with
    | none => none
    | some v => match v.cells with
      | none => none
      | some vs => match Nat.beq vs.length n with
        | false => none
        | true => match overAt o vs cs with
          | none => none
          | some cs => fillA tm e cs l
def oBuild (z : List AVal) (ps : List (Nat × Nat × Opd)) : VOp := fun tm e _ => match fillA tm e z ps with
  | some cs => some (.agg cs)
  | none => none
def oBsl (el es n : Nat) (z : List AVal) (ps : List (Nat × Nat × Opd)) : HOp := fun tm e h => match fillA tm e (repl n z) ps with
  | some cs => .ok (.slice h.nx 0 n (.ex n)) (h.new (.cells cs el es .own false))
  | none => .bad
def oLoad (x : Opd) : VOp := fun tm e h => match x tm e with
  | some (.ptr b o) => cellAt h b o
  | _ => none
def oLoadN (n : Nat) (x : Opd) : VOp := fun tm e h => match x tm e with
  | some (.ptr b o) => match cellsAt h b o n with
    | some cs => some (.agg cs)
    | none => none
  | _ => none
def oStore (n : Nat) (a x : Opd) : HOp := fun tm e h => match a tm e with
  | some (.ptr b o) => match x tm e with
    | some v => match v.cells with
      | some vs => match Nat.beq vs.length n with
        | true => match storeAt h b o vs with
          | some h => .ok (.tup []) h
          | none => .bad
        | false => .bad
      | none => .bad
    | none => .bad
  | _ => .bad
def oNilc (x : Opd) : VOp := fun tm e _ => match x tm e with
  | some (.ptr b o) => some (.ptr b o)
  | some (.func (.func f) l c) => some (.func (.func f) l c)
  | some (.func (.yield f) l c) => some (.func (.yield f) l c)
  | some (.iface t v) => some (.iface t v)
  | _ => none
def oBin (op : BinOp) (kd : EqK) (x y : Opd) : VOp := fun tm e h => match x tm e with
  | some a => match y tm e with
    | some b => binA h op kd a b
    | none => none
  | none => none
def oUn (op : UnOp) (x : Opd) : VOp := fun tm e _ => match x tm e with
  | some x => unA op x
  | none => none
def oConv (k : IntKind) (x : Opd) : VOp := fun tm e _ => match x tm e with
  | some (.int _ n) => some (.int k (wrapA k n))
  | _ => none
def oSame (x : Opd) : VOp := fun tm e _ => match x tm e with
  | some (.str s) => some (.str s)
  | _ => none
def oB2s (x : Opd) : VOp := fun tm e h => match x tm e with
  | some v => match sliceCells h 1 v with
    | some cs => match toBytes cs with
      | some s => some (.str s)
      | none => none
    | none => none
  | none => none
def oS2b (el : Nat) (x : Opd) : HOp := fun tm e h => match x tm e with
  | some (.str s) => .ok (.slice h.nx 0 s.length (.gr 1)) (h.new (.cells (ofBytes s) el 1 .grow true))
  | _ => .bad
def oMkif (t : Nat) (x : Opd) : VOp := fun tm e _ => match x tm e with
  | some v => some (.iface t v)
  | none => none
def oMkfn (f : Nat) (a c : List Opd) : VOp := fun tm e _ => match rdL a tm e with
  | some a => match rdL c tm e with
    | some c => some (.func (.func f) a c)
    | none => none
  | none => none
def oMkmap : HOp := fun _ _ h => .ok (.map h.nx) (h.new (.map [] 0))
def oMksl (el es : Nat) (z : List AVal) (l c : Opd) : HOp := fun tm e h => match l tm e with
  | some l => match c tm e with
    | some c => match natOf l with
      | some l => match natOf c with
        | some c => match Nat.ble l c && Nat.ble c 4294967296 with
          | true => .ok (.slice h.nx 0 l (.ex c)) (h.new (.cells (repl c z) el es .own false))
          | false => .bad
        | none => .bad
      | none => .bad
    | none => .bad
  | none => .bad
def oSlc (es : Nat) (x : Opd) (l h m : Option Opd) : VOp := fun tm e _ => match x tm e with
  | some x => match rdO l tm e with
    | some l => match rdO h tm e with
      | some h => match rdO m tm e with
        | some m => sliceA es x l h m
        | none => none
      | none => none
    | none => none
  | none => none
def oSlcs (x : Opd) (l h : Option Opd) : VOp := fun tm e _ => match x tm e with
  | some (.str s) => match rdO l tm e with
    | some l => match rdO h tm e with
      | some h => match bounds s.length s.length l h none with
        | some (l, h, _) => some (.str ((s.take h).drop l))
        | none => none
      | none => none
    | none => none
  | _ => none
def oSlca (n es : Nat) (x : Opd) (l h m : Option Opd) : VOp := fun tm e _ => match x tm e with
  | some (.ptr b o) => match rdO l tm e with
    | some l => match rdO h tm e with
      | some h => match rdO m tm e with
        | some m => match bounds n n l h m with
          | some (l, hi, m) => match Nat.beq m l with
            | true => some (.slice b o (Nat.sub hi l) (.ex (Nat.sub m l)))
            | false => some (.slice b (Nat.add o (Nat.mul l es)) (Nat.sub hi l) (.ex (Nat.sub m l)))
          | none => none
        | none => none
      | none => none
    | none => none
  | _ => none
def oFaddr (off : Nat) (x : Opd) : VOp := fun tm e _ => match x tm e with
  | some (.ptr b o) => some (.ptr b (Nat.add o off))
  | _ => none
def oField (off : Nat) (n : Option Nat) (x : Opd) : VOp := fun tm e _ => match x tm e with
  | some (.agg l) => match n with
    | none => nth off l
    | some n => match part off n l with
      | some r => some (.agg r)
      | none => none
  | _ => none
def oIaddr (es : Nat) (x i : Opd) : VOp := fun tm e _ => match x tm e with
  | some (.slice b o n _) => match i tm e with
    | some (.int _ (.ofNat i)) => match Nat.blt i n with
      | true => some (.ptr b (Nat.add o (Nat.mul i es)))
      | false => none
    | _ => none
  | _ => none
def oIaddra (n es : Nat) (x i : Opd) : VOp := fun tm e _ => match x tm e with
  | some (.ptr b o) => match i tm e with
    | some (.int _ (.ofNat i)) => match Nat.blt i n with
      | true => some (.ptr b (Nat.add o (Nat.mul i es)))
      | false => none
    | _ => none
  | _ => none
def oIdx (x i : Opd) : VOp := fun tm e _ => match x tm e with
  | some (.str s) => match i tm e with
    | some (.int _ (.ofNat i)) => match nth i s with
      | some c => some (.int .u8 (.ofNat c))
      | none => none
    | _ => none
  | _ => none
def oAidx (n es : Nat) (b : Bool) (x i : Opd) : VOp := fun tm e h => match i tm e with
  | some (.int _ (.ofNat i)) => match Nat.blt i n with
    | true => oField (Nat.mul i es) (cond b (some es) none) x tm e h
    | false => none
  | _ => none
def okV (ok : Bool) (v : AVal) (b : Bool) : AVal := match ok with
  | true => .tup [v, .bool b]
  | false => v
def oLook (kk : KeyK) (z : AVal) (ok : Bool) (x i : Opd) : VOp := fun tm e h => match x tm e with
  | some .nilmap => match i tm e with
    | some _ => some (okV ok z false)
    | none => none
  | some (.map r) => match i tm e with
    | some k => match h.get r with
      | some (.map es _) => match findA h kk k es with
        | some (some v) => some (okV ok v true)
        | some none => some (okV ok z false)
        | none => none
      | _ => none
    | none => none
  | _ => none
def oMupd (kk : KeyK) (m k x : Opd) : HOp := fun tm e h => match m tm e with
  | some (.map r) => match k tm e with
    | some k => match x tm e with
      | some v => match h.get r with
        | some (.map es clock) => match updA h kk k v clock es with
          | some (es, clock) => .ok (.tup []) (h.put r (.map es clock))
          | none => .bad
        | _ => .bad
      | none => .bad
    | none => .bad
  | _ => .bad
def oRngS (x : Opd) : HOp := fun tm e h => match x tm e with
  | some (.str s) => .ok (.ptr h.nx 0) (h.new (.siter s 0))
  | _ => .bad
def oRngM (x : Opd) : HOp := fun tm e h => match x tm e with
  | some .nilmap => .ok (.ptr h.nx 0) (h.new (.iter none 0 [] 0))
  | some (.map m) => match h.get m with
    | some (.map _ clock) => .ok (.ptr h.nx 0) (h.new (.iter (some m) clock [] clock))
    | _ => .bad
  | _ => .bad
def oTass (t : Nat) (z : AVal) (x : Opd) : VOp := fun tm e _ => match x tm e with
  | some .nilif => some (.tup [z, .bool false])
  | some (.iface t' v) => match Nat.beq t t' with
    | true => some (.tup [v, .bool true])
    | false => some (.tup [z, .bool false])
  | _ => none
def oTass1 (t : Nat) (x : Opd) : VOp := fun tm e _ => match x tm e with
  | some (.iface t' v) => match Nat.beq t t' with
    | true => some v
    | false => none
  | _ => none
def oExt (i : Nat) (x : Opd) : VOp := fun tm e _ => match x tm e with
  | some (.tup l) => nth i l
  | _ => none
def orOf : Option (AVal × H) → OR
  | some (v, h) => .ok v h
  | none => .bad
def oApp (el es : Nat) (x y : Opd) : HOp := fun tm e h => match x tm e with
  | some x => match y tm e with
    | some y => match sliceCells h es y with
      | some new => match y with
        | .slice _ _ n _ => orOf (appendA h el es x n new)
        | _ => orOf (appendA h el es x 0 [])
      | none => .bad
    | none => .bad
  | none => .bad
def oApps (el : Nat) (x y : Opd) : HOp := fun tm e h => match x tm e with
  | some x => match y tm e with
    | some (.str s) => orOf (appendA h el 1 x s.length (ofBytes s))
    | _ => .bad
  | none => .bad
def oLenS (x : Opd) : VOp := fun tm e _ => match x tm e with
  | some (.str s) => some (.int .i64 (.ofNat s.length))
  | _ => none
def oLenL (x : Opd) : VOp := fun tm e _ => match x tm e with
  | some (.slice _ _ n _) => some (.int .i64 (.ofNat n))
  | some .nils => some (.int .i64 (.ofNat 0))
  | some .emp => some (.int .i64 (.ofNat 0))
  | _ => none
def oLenM (x : Opd) : VOp := fun tm e h => match x tm e with
  | some .nilmap => some (.int .i64 (.ofNat 0))
  | some (.map r) => match h.get r with
    | some (.map es _) => some (.int .i64 (.ofNat es.length))
    | _ => none
  | _ => none
def oCopy (es : Nat) (x y : Opd) : HOp := fun tm e h => match x tm e with
  | some x => match y tm e with
    | some y => match sliceCells h es x with
      | some d => match sliceCells h es y with
        | some s => match x with
          | .slice b o _ _ => match storeAt h b o (s.take (min d.length s.length)) with
            | some h => .ok (.int .i64 (.ofNat (min d.length s.length / es))) h
            | none => .bad
          | _ => .ok (.int .i64 (.ofNat 0)) h
        | none => .bad
      | none => .bad
    | none => .bad
  | none => .bad
def oCopys (x y : Opd) : HOp := fun tm e h => match x tm e with
  | some x => match y tm e with
    | some (.str s) => match sliceCells h 1 x with
      | some d => match x with
        | .slice b o _ _ => match storeAt h b o (ofBytes (s.take (min d.length s.length))) with
          | some h => .ok (.int .i64 (.ofNat (min d.length s.length))) h
          | none => .bad
        | _ => .ok (.int .i64 (.ofNat 0)) h
      | none => .bad
    | _ => .bad
  | none => .bad
def oDel (kk : KeyK) (m k : Opd) : HOp := fun tm e h => match m tm e with
  | some .nilmap => match k tm e with
    | some _ => .ok (.tup []) h
    | none => .bad
  | some (.map r) => match k tm e with
    | some k => match h.get r with
      | some (.map es clock) => match delA h kk k es with
        | some es => .ok (.tup []) (h.put r (.map es clock))
        | none => .bad
      | _ => .bad
    | none => .bad
  | _ => .bad
def oMm (max : Bool) (x : Opd) (l : List Opd) : VOp := fun tm e _ => match x tm e with
  | some x => match rdL l tm e with
    | some l => mmA max x l
    | none => none
  | none => none
def oClr (z : List AVal) (x : Opd) : HOp := fun tm e h => match x tm e with
  | some .nils => .ok (.tup []) h
  | some .emp => .ok (.tup []) h
  | some (.slice b o n _) => match storeAt h b o (repl n z) with
    | some h => .ok (.tup []) h
    | none => .bad
  | _ => .bad
def oUstr (u : Nat) (a n : Opd) : HOp := fun tm e h => match a tm e with
  | some .nilptr => match n tm e with
    | some (.int _ (.ofNat 0)) => .ok (.str []) h
    | _ => .bad
  | some (.ptr b o) => match n tm e with
    | some (.int _ (.ofNat n)) => match h.get b with
      | some (.cells cs el es .grow _) => match Nat.beq el u && Nat.ble n 4294967296 with
        | false => .bad
        | true => match part o n cs with
          | some l => match toBytes l with
            | some s => .ok (.str s) (h.put b (.cells cs el es .ro true))
            | none => .bad
          | none => .bad
      | _ => .bad
    | _ => .bad
  | _ => .bad
def oUsd (x : Opd) : VOp := fun tm e _ => match x tm e with
  | some .nils => some .nilptr
  | some (.slice b o n c) => match n with
    | 0 => none
    | _ + 1 => match c with
      | .ex 0 => none
      | _ => some (.ptr b o)
  | _ => none
def oMark (x : Opd) : HOp := fun tm e h => match x tm e with
  | some (.slice b o n c) => match h.get b with
    | some (.cells cs el es kd _) => match kd with
      | .ro => .bad
      | kd => .ok (.slice b o n c) (h.put b (.cells cs el es kd true))
    | _ => .bad
  | _ => .bad
def oEnt (it : Opd) : VOp := fun tm e h => match it tm e with
  | some (.ptr r 0) => match h.get r with
    | some (.iter (some m) _ seen last) => match h.get m with
      | some (.map es clock) => match Nat.beq clock last with
        | true => match lastN seen with
          | some s => match entA s es with
            | some (k, v) => some (.tup [k, v])
            | none => none
          | none => none
        | false => none
      | _ => none
    | _ => none
  | _ => none
def oCap (x : Opd) : VOp := fun tm e _ => match x tm e with
  | some (.slice _ _ _ (.ex c)) => some (.int .i64 (.ofNat c))
  | some .nils => some (.int .i64 (.ofNat 0))
  | _ => none
def oAppm (el es : Nat) (z : List AVal) (x n : Opd) : HOp := fun tm e h => match x tm e with
  | some x => match n tm e with
    | some (.int _ (.ofNat n)) => match Nat.ble n 16777216 with
      | true => orOf (appendA h el es x n (repl n z))
      | false => .bad
    | _ => .bad
  | none => .bad
def oP2u (x : Opd) : VOp := fun tm e h => match x tm e with
  | some (.ptr b o) => match h.get b with
    | some (.cells cs _ _ .own _) => match Nat.blt o cs.length with
      | true => some (.ptr b o)
      | false => none
    | _ => none
  | some .nilptr => some .nilptr
  | _ => none
def oU2p (u n : Nat) (x : Opd) : VOp := fun tm e h => match x tm e with
  | some (.ptr b 0) => match h.get b with
    | some (.cells cs el _ .own _) => match Nat.beq el u && Nat.beq cs.length n with
      | true => some (.ptr b 0)
      | false => none
    | _ => none
  | some .nilptr => some .nilptr
  | _ => none

end Go.Ai

namespace Go.Ai

abbrev Chain := List (AVal × Bool)
structure Fx where
  ds : List ADef
  up : Option Chain
  rd : Option Nat

inductive AExit where
  | ret | exit (i : Nat) | panic (ch : Chain)
inductive Out where
  | nrm (tm : TM) (fx : Fx) (h : H)
  | brk (x : AExit) (tm : TM) (fx : Fx) (h : H)
  | ret (v : AVal) (up : Option Chain) (h : H)
  | pan (ch : Chain) (up : Option Chain) (h : H)
inductive Outs where
  | bad
  | one (o : Out)
  | many (l : List Out)

def Outs.toL : Outs → Option (List Out)
  | .bad => none
  | .one o => some [o]
  | .many l => some l
def Outs.and (a b : Outs) : Outs := match a.toL with
  | none => .bad
  | some l => match b.toL with
    | none => .bad
    | some r => .many (l ++ r)
def allO (k : Out → Outs) : List Out → Outs
  | [] => .many []
  | o :: l => match l with
    | [] => k o
    | l => (k o).and (allO k l)
def thenO (r : Outs) (k : Out → Outs) : Outs := match r with
  | .bad => .bad
  | .one o => k o
  | .many l => allO k l

inductive Task where
  | call (f : Nat) (args : List AVal) (up : Option Chain) (h : H)
  | rnd (id : Nat) (body : Bool) (tm : TM) (fx : Fx) (h : H)
abbrev Rc := Task → Outs
abbrev CodeF := Rc → Nat → TM → Fx → H → Outs
abbrev RegF := Rc → TM → Env → Fx → H → Outs

def sEnd : RegF := fun _ tm _ fx h => .one (.nrm tm fx h)
def sV (f : VOp) (k : RegF) : RegF := fun rc tm e fx h => match f tm e h with
  | some v => k rc tm (v :: e) fx h
  | none => .bad
def sH (f : HOp) (k : RegF) : RegF := fun rc tm e fx h => match f tm e h with
  | .ok v h => k rc tm (v :: e) fx h
  | .bad => .bad
def setN : Nat → AVal → TM → TM
  | _, _, [] => []
  | 0, v, _ :: l => v :: l
  | i + 1, v, a :: l => a :: setN i v l
def sS (i : Nat) (x : Opd) (k : RegF) : RegF := fun rc tm e fx h => match x tm e with
  | some v => k rc (setN i v tm) e fx h
  | none => .bad

def setPs (tm : TM) : List Nat → List AVal → Option TM
  | [], [] => some tm
  | p :: ps, v :: l => setPs (setN p v tm) ps l
  | _, _ => none

def roundF (rc : Rc) (l : Nat) (args : List AVal) (h : H) : Outs := match h.get l with
  | some (.loop _ _ tm ps id _) => match setPs tm ps args with
    | none => .bad
    | some tm1 => thenO (rc (.rnd id false tm1 ⟨[], none, some l⟩ h)) fun
      | .nrm tm2 fx2 h => match h.get l with
        | some (.loop .ready pend tm ps id' d) =>
          thenO (rc (.rnd id true tm2 fx2 (h.put l (.loop .busy pend tm ps id' d)))) fun
            | .nrm _ _ h => match h.get l with
              | some (.loop _ _ tm ps id d) => .one (.ret (.bool true) none (h.put l (.loop .ready .none tm ps id d)))
              | _ => .bad
            | .brk x _ fx h => match x with
              | .ret => match h.get l with
                | some (.loop _ _ tm ps id d) => .one (.ret (.bool false) none (h.put l (.loop .done .ret tm ps id d)))
                | _ => .bad
              | .exit i => match h.get l with
                | some (.loop _ _ tm ps id d) => .one (.ret (.bool false) none (h.put l (.loop .done (.exit i) tm ps id d)))
                | _ => .bad
              | .panic ch => match fx.ds with
                | [] => .one (.pan ch none h)
                | _ => .bad
            | _ => .bad
        | _ => .bad
      | _ => .bad
  | _ => .bad
def callV (rc : Rc) (v : AVal) (args : List AVal) (h : H) : Outs := match v with
  | .func (.func f) a c => rc (.call f (a ++ args ++ c) none h)
  | .func (.yield l) [] _ => roundF rc l args h
  | _ => .bad

abbrev CallF := Rc → TM → Env → List AVal → H → Outs
def cFn (f : Nat) : CallF := fun rc _ _ args h => rc (.call f args none h)
def cVal (x : Opd) : CallF := fun rc tm e args h => match x tm e with
  | some v => callV rc v args h
  | none => .bad
def followA (h : H) (v : AVal) : List Nat → Option AVal
  | [] => some v
  | o :: l => match v with
    | .ptr b i => match l with
      | [] => some (.ptr b (Nat.add i o))
      | _ => match cellAt h b (Nat.add i o) with
        | some v => followA h v l
        | none => none
    | _ => none
def methOf (t : Nat) : List (Nat × Nat × List Nat × Bool) → Option (Nat × List Nat × Bool)
  | [] => none
  | (t', f, p, r) :: l => match Nat.beq t t' with
    | true => some (f, p, r)
    | false => methOf t l
def methGo (rc : Rc) (f : Nat) (p : List Nat) (r : Bool) (v : AVal) (args : List AVal) (h : H) : Outs := match p with
  | [] => rc (.call f (v :: args) none h)
  | p => match followA h v p with
    | some (.ptr b o) => match r with
      | true => rc (.call f (.ptr b o :: args) none h)
      | false => match cellAt h b o with
        | some v => rc (.call f (v :: args) none h)
        | none => .bad
    | _ => .bad
def cMeth (ms : List (Nat × Nat × List Nat × Bool)) (x : Opd) : CallF := fun rc tm e args h => match x tm e with
  | some (.iface t v) => match methOf t ms with
    | some (f, p, r) => methGo rc f p r v args h
    | none => .bad
  | _ => .bad
def sC (c : CallF) (args : List Opd) (k : RegF) : RegF := fun rc tm e fx h => match rdL args tm e with
  | some l => thenO (c rc tm e l h) fun
    | .ret v _ h => k rc tm (v :: e) fx h
    | .pan ch _ h => .one (.brk (.panic ch) tm fx h)
    | _ => .bad
  | none => .bad

def sG (g : Opd) (b : Bool) (s : RegF → RegF) (k : RegF) : RegF := fun rc tm e fx h => match g tm e with
  | some (.bool c) => match b with
    | true => match c with
      | true => s k rc tm e fx h
      | false => k rc tm (.tup [] :: e) fx h
    | false => match c with
      | true => k rc tm (.tup [] :: e) fx h
      | false => s k rc tm e fx h
  | some (.tup []) => k rc tm (.tup [] :: e) fx h
  | _ => .bad

def sPan (x : Opd) : RegF := fun _ tm e fx h => match x tm e with
  | some (.iface t v) => .one (.brk (.panic [(.iface t v, false)]) tm fx h)
  | _ => .bad
def sRec (k : RegF) : RegF := fun rc tm e fx h => match fx.rd with
  | some _ => .bad
  | none => match fx.up with
    | some ((v, false) :: ch) => k rc tm (v :: e) ⟨fx.ds, some ((v, true) :: ch), none⟩ h
    | _ => k rc tm (.nilif :: e) fx h
def sDef (x : Opd) (args : List Opd) (k : RegF) : RegF := fun rc tm e fx h => match fx.rd with
  | some _ => .bad
  | none => match x tm e with
    | some (.func fn a c) => match rdL args tm e with
      | some l => k rc tm (.tup [] :: e) ⟨.call fn (a ++ l) c :: fx.ds, fx.up, none⟩ h
      | none => .bad
    | _ => .bad
def hasN (b : Nat) : List Nat → Bool
  | [] => false
  | c :: l => match Nat.beq b c with
    | true => true
    | false => hasN b l
def candA (seen : List Nat) (since : Nat) : List (AVal × AVal × Nat) → Option (List (AVal × AVal × Nat))
  | [] => some []
  | (k, v, s) :: l => match candA seen since l with
    | none => none
    | some r => match hasN s seen with
      | true => some r
      | false => match Nat.blt s since with
        | true => some ((k, v, s) :: r)
        | false => none
def clockA (h : H) (m : Nat) : Nat := match h.get m with
  | some (.map _ clock) => clock
  | _ => 0
def nextO (k : RegF) (rc : Rc) (tm : TM) (e : Env) (fx : Fx) (h : H) (r m since : Nat) (seen : List Nat) (clock : Nat) : List (AVal × AVal × Nat) → Outs
  | [] => .bad
  | c :: l => match l with
    | [] => k rc tm (.tup [.bool true, c.1, c.2.1] :: e) fx (h.put r (.iter (some m) since (seen ++ [c.2.2]) clock))
    | l => (k rc tm (.tup [.bool true, c.1, c.2.1] :: e) fx (h.put r (.iter (some m) since (seen ++ [c.2.2]) clock))).and (nextO k rc tm e fx h r m since seen clock l)
def anyOld (last : Nat) : List (AVal × AVal × Nat) → Bool
  | [] => false
  | (_, _, s) :: l => match Nat.blt s last with
    | true => true
    | false => anyOld last l
def oldOk (seen : List Nat) (last : Nat) (es : List (AVal × AVal × Nat)) : Bool := match seen with
  | [] => true
  | _ => match es with
    | [] => true
    | es => anyOld last es
def sNext (it : Opd) (k : RegF) : RegF := fun rc tm e fx h => match it tm e with
  | some (.ptr r 0) => match h.get r with
    | some (.iter none _ _ _) => k rc tm (.tup [.bool false] :: e) fx h
    | some (.iter (some m) since seen last) => match h.get m with
      | some (.map es _) => match oldOk seen last es with
        | false => .bad
        | true => match candA seen since es with
          | none => .bad
          | some [] => k rc tm (.tup [.bool false] :: e) fx h
          | some (c :: cs) => nextO k rc tm e fx h r m since seen (clockA h m) (c :: cs)
      | _ => .bad
    | _ => .bad
  | _ => .bad

def kReg (r : RegF) : CodeF := fun rc _ tm fx h => r rc tm [] fx h
def kSkip : CodeF := fun _ _ tm fx h => .one (.nrm tm fx h)
def kRet : CodeF := fun _ _ tm fx h => .one (.brk .ret tm fx h)
def kExit (i : Nat) : CodeF := fun _ _ tm fx h => .one (.brk (.exit i) tm fx h)
def kBad : CodeF := fun _ _ _ _ _ => .bad
def kSeq (a b : CodeF) : CodeF := fun rc n tm fx h => thenO (a rc n tm fx h) fun
  | .nrm tm fx h => b rc n tm fx h
  | o => .one o
def kCond (x : Opd) (a b : CodeF) : CodeF := fun rc n tm fx h => match x tm [] with
  | some (.bool true) => a rc n tm fx h
  | some (.bool false) => b rc n tm fx h
  | _ => .bad
def sCond (n : Nat) (x : Opd) (a b : CodeF) : RegF := fun rc tm e fx h => match x tm e with
  | some (.bool true) => a rc n tm fx h
  | some (.bool false) => b rc n tm fx h
  | _ => .bad
def kRegC (r : RegF → RegF) (x : Opd) (a b : CodeF) : CodeF := fun rc n tm fx h => r (sCond n x a b) rc tm [] fx h
def kBlock (i : Nat) (c : CodeF) : CodeF := fun rc n tm fx h => thenO (c rc n tm fx h) fun
  | .brk (.exit j) tm fx h => match Nat.beq j i with
    | true => .one (.nrm tm fx h)
    | false => .one (.brk (.exit j) tm fx h)
  | o => .one o
def loopF (c : CodeF) (rc : Rc) : Nat → TM → Fx → H → Outs
  | 0, _, _, _ => .bad
  | n + 1, tm, fx, h => thenO (c rc n tm fx h) fun
    | .nrm tm fx h => loopF c rc n tm fx h
    | o => .one o
def kLoop (c : CodeF) : CodeF := fun rc n tm fx h => loopF c rc n tm fx h
def rfEnd (pend : APend) (tm : TM) (fx : Fx) (h : H) : Outs := match pend with
  | .none => .one (.nrm tm fx h)
  | .ret => .one (.brk .ret tm fx h)
  | .exit i => .one (.brk (.exit i) tm fx h)
def rfGo (rc : Rc) (id : Nat) (ps : List Nat) (fv : AVal) (tm : TM) (fx : Fx) (d : Nat) (h : H) : Outs :=
  thenO (callV rc fv [.func (.yield h.nx) [] []] (h.new (.loop .ready .none tm ps id d))) fun
    | .ret _ _ h' => match h'.get h.nx with
      | some (.loop st pend tm' ps' id' d') => match st with
        | .busy => .bad
        | _ => rfEnd pend tm fx (h'.put h.nx (.loop .exhausted pend tm' ps' id' d'))
      | _ => .bad
    | .pan ch _ h' => .one (.brk (.panic ch) tm fx h')
    | _ => .bad
def kRf (id : Nat) (ps : List Nat) (x : Opd) : CodeF := fun rc _ tm fx h => match x tm [] with
  | none => .bad
  | some fv => match fx.rd with
    | some l => match h.get l with
      | some (.loop _ _ _ _ _ d) => rfGo rc id ps fv tm fx d h
      | _ => .bad
    | none => rfGo rc id ps fv tm ⟨.mark h.nx :: fx.ds, fx.up, none⟩ h.nx (h.new (.deferred true))

inductive DStep where
  | v (f : VOp)
  | h (f : HOp)
  | c (f : CallF) (args : List Opd)
  | f (f : HOp)
abbrev DS := DStep × Option (Opd × Bool)
structure DEv where
  rd : H → Option AVal
  v : AVal
  h0 : H
  h1 : H
mutual
def sameV : AVal → AVal → Bool
  | .bool a, .bool b => a == b
  | .int k a, .int k' b => kEq k k' && ieq a b
  | .str a, .str b => lEq a b
  | .ptr a i, .ptr b j => Nat.beq a b && Nat.beq i j
  | .nilptr, .nilptr => true
  | .slice a i n (.ex c), .slice b j m (.ex d) => Nat.beq a b && Nat.beq i j && Nat.beq n m && Nat.beq c d
  | .slice a i n (.gr c), .slice b j m (.gr d) => Nat.beq a b && Nat.beq i j && Nat.beq n m && Nat.beq c d
  | .emp, .emp => true
  | .nils, .nils => true
  | .map a, .map b => Nat.beq a b
  | .nilmap, .nilmap => true
  | .nilfunc, .nilfunc => true
  | .nilif, .nilif => true
  | .func (.func f) a c, .func (.func g) b d => Nat.beq f g && (sameL a b && sameL c d)
  | .func (.yield f) a c, .func (.yield g) b d => Nat.beq f g && (sameL a b && sameL c d)
  | .iface t v, .iface u w => Nat.beq t u && sameV v w
  | .agg a, .agg b => sameL a b
  | .tup a, .tup b => sameL a b
  | _, _ => false
def sameL : List AVal → List AVal → Bool
  | [], [] => true
  | a :: x, b :: y => sameV a b && sameL x y
  | _, _ => false
end
def sameO (v : AVal) : Option AVal → Bool
  | some w => sameV v w
  | none => false
def checkD (evs : List DEv) : List (Nat × Nat) → Bool
  | [] => true
  | (i, j) :: l => match nth i evs with
    | none => false
    | some r => match nth j evs with
      | none => false
      | some w => match sameO r.v (r.rd w.h0) with
        | true => match sameO r.v (r.rd w.h1) with
          | true => checkD evs l
          | false => false
        | false => false
def setD (e : Env) : List (Option Nat) → TM → Option TM
  | [], tm => some tm
  | _ :: _, [] => none
  | x :: l, a :: tm => match x with
    | none => match setD e l tm with
      | some r => some (a :: r)
      | none => none
    | some j => match nth j e with
      | some v => match setD e l tm with
        | some r => some (v :: r)
        | none => none
      | none => none
def wantD (tm : TM) (e : Env) : Option (Opd × Bool) → Option Bool
  | none => some true
  | some (g, b) => match g tm e with
    | some (.bool c) => match b with
      | true => some c
      | false => some (!c)
    | some (.tup []) => some false
    | _ => none
def rdD (s : DStep) (tm : TM) (e : Env) (wanted : Bool) : H → Option AVal := match wanted with
  | false => fun _ => some (.tup [])
  | true => match s with
    | .v f => fun h => f tm e h
    | _ => fun _ => none
def allNone (h : H) (b : Nat) : Nat → Bool
  | 0 => true
  | n + 1 => match h.get b with
    | none => allNone h (Nat.succ b) n
    | some _ => false
def isF : DStep → Bool
  | .f _ => true
  | _ => false
def chkM (h : H) (r m : Nat) : DStep → Bool
  | .h _ => allNone h r m
  | .c _ _ => allNone h r m
  | _ => true
def stepD (rc : Rc) (tm : TM) (e : Env) (h : H) (r : Nat) (s : DStep) : Option (AVal × H) := match s with
  | .v f => match f tm e h with
    | some v => some (v, h)
    | none => none
  | .h f => match f tm e h with
    | .ok v h' => some (v, h')
    | .bad => none
  | .c f args => match rdL args tm e with
    | none => none
    | some a => match f rc tm e a h with
      | .one (.ret v _ h') => some (v, h')
      | _ => none
  | .f f => match f tm e ⟨.nil, r⟩ with
    | .ok v h' => match h'.get r with
      | some x => match h.get r with
        | none => some (v, h.put r x)
        | some _ => none
      | none => none
    | .bad => none
def stepsD (rc : Rc) (tm : TM) : List DS → (r m : Nat) → Env → List DEv → H → (Env → List DEv → H → Outs) → Outs
  | [], _, _, e, evs, h, k => k e evs h
  | (s, g) :: l, r, m, e, evs, h, k => match chkM h r m s with
    | false => .bad
    | true => match wantD tm e g with
      | none => .bad
      | some false => match isF s with
        | true => stepsD rc tm l (Nat.succ r) (Nat.pred m) (.tup [] :: e) (⟨rdD s tm e false, .tup [], h, h⟩ :: evs) h k
        | false => stepsD rc tm l r m (.tup [] :: e) (⟨rdD s tm e false, .tup [], h, h⟩ :: evs) h k
      | some true => match stepD rc tm e h r s with
        | none => .bad
        | some (v, h') => match isF s with
          | true => stepsD rc tm l (Nat.succ r) (Nat.pred m) (v :: e) (⟨rdD s tm e true, v, h, h'⟩ :: evs) h' k
          | false => stepsD rc tm l r m (v :: e) (⟨rdD s tm e true, v, h, h'⟩ :: evs) h' k
def finD (sets : List (Option Nat)) (cf : List (Nat × Nat)) (tm : TM) (fx : Fx) : Env → List DEv → H → Outs := fun e evs h => match checkD evs cf with
  | true => match setD e sets tm with
    | some tm => .one (.nrm tm fx h)
    | none => .bad
  | false => .bad
def kDraw (ops : List DS) (nf : Nat) (sets : List (Option Nat)) (cf : List (Nat × Nat)) : CodeF := fun rc _ tm fx h =>
  stepsD rc tm ops h.nx nf [] [] ⟨h.o, Nat.add h.nx nf⟩ (finD sets cf tm fx)

inductive ARes where
  | t (i : Nat)
  | cell (i : Nat) (n : Option Nat)
structure Ent where
  args : List AVal
  h : H
  v : AVal
  h' : H
inductive XFn where
  | go (body : CodeF) (n : Nat) (pads : TM) (res : List ARes)
  | mrg (body : CodeF) (n : Nat) (pads : TM) (res : List ARes)
  | noEscape
  | ext (q : List AVal → H → OR)
  | memo (l : List Ent) (body : CodeF) (n : Nat) (pads : TM) (res : List ARes)

structure AProg where
  fn : PT XFn
  rf : PT (CodeF × CodeF)

def resA (tm : TM) (h : H) : List ARes → Option (List AVal)
  | [] => some []
  | .t i :: l => match nth i tm with
    | some v => match resA tm h l with
      | some r => some (v :: r)
      | none => none
    | none => none
  | .cell i n :: l => match nth i tm with
    | some (.ptr b o) => match resA tm h l with
      | some r => match n with
        | none => match cellAt h b o with
          | some v => some (v :: r)
          | none => none
        | some n => match cellsAt h b o n with
          | some cs => some (.agg cs :: r)
          | none => none
      | none => none
    | _ => none
def settleA : Chain → Chain
  | (_, true) :: _ => []
  | m => m
def resV : List AVal → AVal
  | [v] => v
  | l => .tup l
def leaveA (rc : Rc) (res : List ARes) (tm : TM) (up : Option Chain) : List ADef → Chain → H → Outs
  | [], md, h => match md with
    | [] => match resA tm h res with
      | some l => .one (.ret (resV l) up h)
      | none => .bad
    | ch => .one (.pan ch up h)
  | .mark r :: ds, md, h => match h.get r with
    | some (.deferred true) => leaveA rc res tm up ds md (h.put r (.deferred false))
    | _ => .bad
  | .call fn args cap :: ds, md, h => match fn with
    | .func f => thenO (rc (.call f (args ++ cap) (some md) h)) fun
      | .ret _ (some md) h => leaveA rc res tm up ds (settleA md) h
      | .pan ch (some md) h => leaveA rc res tm up ds (ch ++ md) h
      | _ => .bad
    | _ => .bad

def padT : Nat → List AVal → TM → Option TM
  | 0, [], pads => some pads
  | n + 1, a :: l, pads => match padT n l pads with
    | some r => some (a :: r)
    | none => none
  | _, _, _ => none
def frameA (rc : Rc) (m : Nat) (body : CodeF) (n : Nat) (pads : TM) (res : List ARes) (args : List AVal) (up : Option Chain) (h : H) : Outs := match padT n args pads with
  | none => .bad
  | some tm => thenO (body rc m tm ⟨[], up, none⟩ h) fun
    | .nrm tm fx h => leaveA rc res tm fx.up fx.ds [] h
    | .brk x tm fx h => match x with
      | .ret => leaveA rc res tm fx.up fx.ds [] h
      | .panic ch => leaveA rc res tm fx.up fx.ds ch h
      | .exit _ => .bad
    | _ => .bad

def strsEq : List AVal → List AVal → Bool
  | [], [] => true
  | .str a :: x, .str b :: y => match lEq a b with
    | true => strsEq x y
    | false => false
  | _, _ => false
def sameEnt : List (AVal × AVal × Nat) → List (AVal × AVal × Nat) → Bool
  | [], [] => true
  | (k, v, s) :: l, (k', v', s') :: l' => match sameV k k' with
    | true => match sameV v v' with
      | true => match Nat.beq s s' with
        | true => sameEnt l l'
        | false => false
      | false => false
    | false => false
  | _, _ => false
structure SM where
  b : Nat
  r : Nat
  el : Nat
  es : Nat
  fz : Bool
  ents : List (AVal × AVal × Nat)
  clock : Nat
def smallA (args : List AVal) (h : H) : Option SM := match args with
  | [.func (.func _) [] [.ptr b 0]] => match h.get b with
    | some (.cells [.map r] el es .own fz) => match h.get r with
      | some (.map ents clock) => some ⟨b, r, el, es, fz, ents, clock⟩
      | _ => none
    | _ => none
  | _ => none
def SM.h (s : SM) (nx : Nat) : H := ⟨((PT.nil.set s.b (some (.cells [.map s.r] s.el s.es .own s.fz))).set s.r (some (.map s.ents s.clock))), nx⟩
def SM.kept (s : SM) (h : H) : Bool := match h.get s.b with
  | some (.cells [.map r] el es .own fz) => match Nat.beq r s.r && (Nat.beq el s.el && (Nat.beq es s.es && fz == s.fz)) with
    | true => match h.get s.r with
      | some (.map ents clock) => match Nat.beq clock s.clock with
        | true => sameEnt ents s.ents
        | false => false
      | _ => false
    | false => false
  | _ => false
def sameRows (s : SM) (nx : Nat) (b : List AVal) (n el : Nat) : List Out → Bool
  | [] => true
  | .ret (.slice i 0 n' (.gr 1)) none h :: l => match Nat.beq n n' with
    | true => match h.get i with
      | some (.cells cs el' 1 .grow false) => match Nat.beq el el' && (Nat.ble nx i && (strsEq cs b && s.kept h)) with
        | true => sameRows s nx b n el l
        | false => false
      | _ => false
    | false => false
  | _ => false
def mergeA (s : SM) (h : H) (r : Outs) : Outs := match r.toL with
  | some (o :: l) => match o with
    | .ret (.slice i 0 n (.gr 1)) none h1 => match h1.get i with
      | some (.cells cs el 1 .grow false) => match sameRows s h.nx cs n el (o :: l) with
        | true => .one (.ret (.slice h.nx 0 n (.gr 1)) none (h.new (.cells cs el 1 .grow false)))
        | false => .bad
      | _ => .bad
    | .ret .nils none h1 => match l with
      | [] => match s.kept h1 with
        | true => .one (.ret .nils none h)
        | false => .bad
      | _ => .bad
    | _ => .bad
  | _ => .bad

def sameKd : BKind → BKind → Bool
  | .own, .own => true
  | .grow, .grow => true
  | .ro, .ro => true
  | _, _ => false
def sameNs : List Nat → List Nat → Bool
  | [], [] => true
  | a :: x, b :: y => match Nat.beq a b with
    | true => sameNs x y
    | false => false
  | _, _ => false
def sameObj : AObj → AObj → Bool
  | .cells cs el es kd fz, .cells cs' el' es' kd' fz' => match Nat.beq el el' && (Nat.beq es es' && (sameKd kd kd' && fz == fz')) with
    | true => sameL cs cs'
    | false => false
  | .map es c, .map es' c' => match Nat.beq c c' with
    | true => sameEnt es es'
    | false => false
  | .siter s p, .siter s' p' => Nat.beq p p' && sameNs s s'
  | .iter (some m) a s b, .iter (some m') a' s' b' => Nat.beq m m' && (Nat.beq a a' && (Nat.beq b b' && sameNs s s'))
  | .iter none a s b, .iter none a' s' b' => Nat.beq a a' && (Nat.beq b b' && sameNs s s')
  | .deferred a, .deferred b => a == b
  | _, _ => false
def subT : PT AObj → PT AObj → Bool
  | .nil, _ => true
  | .node l v r, t => match t with
    | .nil => false
    | .node l' v' r' => match (match v with
        | none => true
        | some x => match v' with
          | none => false
          | some y => sameObj x y) with
      | true => match subT l l' with
        | true => subT r r'
        | false => false
      | false => false
def subH (a b : H) : Bool := match Nat.beq a.nx b.nx with
  | true => subT a.o b.o
  | false => false
def layT : PT AObj → PT AObj → PT AObj → PT AObj
  | .nil, .nil, t => t
  | .nil, .node l v r, t => match t with
    | .nil => .node l v r
    | .node l' v' r' => .node (layT .nil l l') (match v with
      | none => v'
      | some x => some x) (layT .nil r r')
  | .node l v r, b, t => match t with
    | .nil => b
    | .node l' v' r' => match b with
      | .nil => .node (layT l .nil l') (match v with
        | none => v'
        | some _ => none) (layT r .nil r')
      | .node l2 v2 r2 => .node (layT l l2 l') (match v2 with
        | some x => some x
        | none => match v with
          | none => v'
          | some _ => none) (layT r r2 r')
def findE (nx : Nat) : List Ent → Option Ent
  | [] => none
  | e :: l => match Nat.beq nx e.h.nx with
    | true => some e
    | false => findE nx l
def memoA (e : Ent) (args : List AVal) (h : H) : Outs := match sameL e.args args with
  | true => match subH e.h h with
    | true => .one (.ret e.v none ⟨layT e.h.o e.h'.o h.o, e.h'.nx⟩)
    | false => .bad
  | false => .bad

def evalA (P : AProg) : Nat → Task → Outs
  | 0, _ => .bad
  | n + 1, t => match t with
    | .call f args up h => match P.fn.get f with
      | some (.go b k pads res) => frameA (evalA P n) n b k pads res args up h
      | some (.mrg b k pads res) => match up with
        | none => match smallA args h with
          | some s => mergeA s h (frameA (evalA P n) n b k pads res args none (s.h h.nx))
          | none => .bad
        | some _ => .bad
      | some .noEscape => match args with
        | [x] => match up with
          | none => .one (.ret x none h)
          | some _ => .bad
        | _ => .bad
      | some (.ext q) => match up with
        | none => match q args h with
          | .ok x h' => .one (.ret x none h')
          | .bad => .bad
        | some _ => .bad
      | some (.memo l b k pads res) => match up with
        | none => match findE h.nx l with
          | some e => memoA e args h
          | none => frameA (evalA P n) n b k pads res args none h
        | some md => frameA (evalA P n) n b k pads res args (some md) h
      | none => .bad
    | .rnd id b tm fx h => match P.rf.get id with
      | some (a, c) => match b with
        | false => a (evalA P n) n tm fx h
        | true => c (evalA P n) n tm fx h
      | none => .bad

end Go.Ai

namespace Go.Ai

inductive AOpd where
  | t (i : Nat)
  | l (i : Nat)
  | k (v : AVal)
inductive ACallee where
  | fn (f : Nat)
  | val (x : AOpd)
  | meth (ms : List (Nat × Nat × List Nat × Bool)) (x : AOpd)
inductive AOp where
  | mov (x : AOpd)
  | pick (c a b : AOpd)
  | box (el es : Nat) (x : AOpd)
  | alloc (el es : Nat) (z : List AVal)
  | build (z : List AVal) (ps : List (Nat × Nat × AOpd))
  | bsl (el es n : Nat) (z : List AVal) (ps : List (Nat × Nat × AOpd))
  | load (x : AOpd)
  | loadn (n : Nat) (x : AOpd)
  | store (n : Nat) (a x : AOpd)
  | nilc (x : AOpd)
  | bin (op : BinOp) (kd : EqK) (x y : AOpd)
  | un (op : UnOp) (x : AOpd)
  | conv (k : IntKind) (x : AOpd)
  | same (x : AOpd)
  | b2s (x : AOpd)
  | s2b (el : Nat) (x : AOpd)
  | mkif (t : Nat) (x : AOpd)
  | mkfn (f : Nat) (a c : List AOpd)
  | mkmap
  | mksl (el es : Nat) (z : List AVal) (l c : AOpd)
  | slc (es : Nat) (x : AOpd) (l h m : Option AOpd)
  | slcs (x : AOpd) (l h : Option AOpd)
  | slca (n es : Nat) (x : AOpd) (l h m : Option AOpd)
  | faddr (off : Nat) (x : AOpd)
  | field (off : Nat) (n : Option Nat) (x : AOpd)
  | iaddr (es : Nat) (x i : AOpd)
  | iaddra (n es : Nat) (x i : AOpd)
  | idx (x i : AOpd)
  | aidx (n es : Nat) (b : Bool) (x i : AOpd)
  | look (kk : KeyK) (z : AVal) (ok : Bool) (x i : AOpd)
  | mupd (kk : KeyK) (m k x : AOpd)
  | rngs (x : AOpd)
  | rngm (x : AOpd)
  | tass (t : Nat) (z : AVal) (x : AOpd)
  | tass1 (t : Nat) (x : AOpd)
  | ext (i : Nat) (x : AOpd)
  | app (el es : Nat) (x y : AOpd)
  | apps (el : Nat) (x y : AOpd)
  | lens (x : AOpd)
  | lenl (x : AOpd)
  | lenm (x : AOpd)
  | copy (es : Nat) (x y : AOpd)
  | copys (x y : AOpd)
  | del (kk : KeyK) (m k : AOpd)
  | mm (max : Bool) (x : AOpd) (l : List AOpd)
  | clr (z : List AVal) (x : AOpd)
  | ustr (u : Nat) (a n : AOpd)
  | usd (x : AOpd)
  | mark (x : AOpd)
  | ent (it : AOpd)
  | cap (x : AOpd)
  | appm (el es : Nat) (z : List AVal) (x n : AOpd)
  | p2u (x : AOpd)
  | u2p (u n : Nat) (x : AOpd)
  | set (i : Nat) (x : AOpd)
  | call (c : ACallee) (args : List AOpd)
  | next (it : AOpd)
  | recover
  | defer (x : AOpd) (args : List AOpd)
  | panic (x : AOpd)
  | bad
structure AOper where
  op : AOp
  g : Option (AOpd × Bool)
inductive ACode where
  | skip | ret | bad
  | exit (i : Nat)
  | reg (l : List AOper)
  | regc (l : List AOper) (x : AOpd) (a b : ACode)
  | draw (l : List (AOper × Bool)) (nf : Nat) (sets : List (Option Nat)) (cf : List (Nat × Nat))
  | seq (a b : ACode)
  | cond (x : AOpd) (a b : ACode)
  | block (i : Nat) (c : ACode)
  | loop (c : ACode)
  | rf (id : Nat) (ps : List Nat) (x : AOpd)

def AOpd.den : AOpd → Opd
  | .t i => xT i
  | .l i => xL i
  | .k v => xK v
def denL (l : List AOpd) : List Opd := l.map AOpd.den
def denO (x : Option AOpd) : Option Opd := x.map AOpd.den
def denP (l : List (Nat × Nat × AOpd)) : List (Nat × Nat × Opd) := l.map fun x => (x.1, x.2.1, x.2.2.den)
def AOp.denV : AOp → Option VOp
  | .mov x => some (oMov x.den)
  | .pick c a b => some (oPick c.den a.den b.den)
  | .build z ps => some (oBuild z (denP ps))
  | .load x => some (oLoad x.den)
  | .loadn n x => some (oLoadN n x.den)
  | .nilc x => some (oNilc x.den)
  | .bin op l x y => some (oBin op l x.den y.den)
  | .un op x => some (oUn op x.den)
  | .conv k x => some (oConv k x.den)
  | .same x => some (oSame x.den)
  | .b2s x => some (oB2s x.den)
  | .mkif t x => some (oMkif t x.den)
  | .mkfn f a c => some (oMkfn f (denL a) (denL c))
  | .slc es x l h m => some (oSlc es x.den (denO l) (denO h) (denO m))
  | .slcs x l h => some (oSlcs x.den (denO l) (denO h))
  | .slca n es x l h m => some (oSlca n es x.den (denO l) (denO h) (denO m))
  | .faddr o x => some (oFaddr o x.den)
  | .field o n x => some (oField o n x.den)
  | .iaddr es x i => some (oIaddr es x.den i.den)
  | .iaddra n es x i => some (oIaddra n es x.den i.den)
  | .idx x i => some (oIdx x.den i.den)
  | .aidx n es b x i => some (oAidx n es b x.den i.den)
  | .look kk z ok x i => some (oLook kk z ok x.den i.den)
  | .tass t z x => some (oTass t z x.den)
  | .tass1 t x => some (oTass1 t x.den)
  | .ext i x => some (oExt i x.den)
  | .lens x => some (oLenS x.den)
  | .lenl x => some (oLenL x.den)
  | .lenm x => some (oLenM x.den)
  | .mm b x l => some (oMm b x.den (denL l))
  | .usd x => some (oUsd x.den)
  | .ent x => some (oEnt x.den)
  | .cap x => some (oCap x.den)
  | .p2u x => some (oP2u x.den)
  | .u2p u n x => some (oU2p u n x.den)
  | _ => none
def AOp.denH : AOp → Option HOp
  | .box el es x => some (oBox el es x.den)
  | .alloc el es z => some (oAlloc el es z)
  | .bsl el es n z ps => some (oBsl el es n z (denP ps))
  | .store n a x => some (oStore n a.den x.den)
  | .s2b el x => some (oS2b el x.den)
  | .mkmap => some oMkmap
  | .mksl el es z l c => some (oMksl el es z l.den c.den)
  | .mupd kk m k x => some (oMupd kk m.den k.den x.den)
  | .rngs x => some (oRngS x.den)
  | .rngm x => some (oRngM x.den)
  | .app el es x y => some (oApp el es x.den y.den)
  | .apps el x y => some (oApps el x.den y.den)
  | .copy es x y => some (oCopy es x.den y.den)
  | .copys x y => some (oCopys x.den y.den)
  | .del kk m k => some (oDel kk m.den k.den)
  | .clr z x => some (oClr z x.den)
  | .ustr u a n => some (oUstr u a.den n.den)
  | .mark x => some (oMark x.den)
  | .appm el es z x n => some (oAppm el es z x.den n.den)
  | _ => none
def ACallee.den : ACallee → CallF
  | .fn f => cFn f
  | .val x => cVal x.den
  | .meth ms x => cMeth ms x.den
def sBad : RegF := fun _ _ _ _ _ => .bad
def AOp.denS (o : AOp) : Option (RegF → RegF) := match o.denV with
  | some f => some (sV f)
  | none => match o.denH with
    | some f => some (sH f)
    | none => match o with
      | .call c args => some (sC c.den (denL args))
      | .next x => some (sNext x.den)
      | .recover => some sRec
      | .defer x args => some (sDef x.den (denL args))
      | _ => none
def AOper.den (o : AOper) (k : RegF) : RegF := match o.g with
  | some (g, b) => match o.op.denS with
    | some s => sG g.den b s k
    | none => sBad
  | none => match o.op.denS with
    | some s => s k
    | none => match o.op with
      | .set i x => sS i x.den k
      | .panic x => sPan x.den
      | _ => sBad
def denOps : List AOper → RegF → RegF
  | [], k => k
  | o :: l, k => o.den (denOps l k)
def AOp.denD (o : AOp) (fl : Bool) : Option DStep := match o.denV with
  | some f => match fl with
    | true => none
    | false => some (.v f)
  | none => match o.denH with
    | some f => match fl with
      | true => some (.f f)
      | false => some (.h f)
    | none => match o with
      | .call c args => match fl with
        | true => none
        | false => some (.c c.den (denL args))
      | _ => none
def denG : Option (AOpd × Bool) → Option (Opd × Bool)
  | none => none
  | some (g, b) => some (g.den, b)
def denDs : List (AOper × Bool) → Option (List DS)
  | [] => some []
  | (o, fl) :: l => match o.op.denD fl with
    | some a => match denDs l with
      | some r => some ((a, denG o.g) :: r)
      | none => none
    | none => none
def ACode.den : ACode → CodeF
  | .skip => kSkip
  | .ret => kRet
  | .bad => kBad
  | .exit i => kExit i
  | .reg l => kReg (denOps l sEnd)
  | .regc l x a b => kRegC (fun k => denOps l k) x.den a.den b.den
  | .draw l nf sets cf => match denDs l with
    | some l => kDraw l nf sets cf
    | none => kBad
  | .seq a b => kSeq a.den b.den
  | .cond x a b => kCond x.den a.den b.den
  | .block i c => kBlock i c.den
  | .loop c => kLoop c.den
  | .rf id ps x => kRf id ps x.den

def cstr (s : ByteArray) : List Nat := s.data.toList.map UInt8.toNat
def cval : Value → Option AVal
  | .bool b => some (.bool b)
  | .int k n => some (.int k n)
  | .string s => some (.str (cstr s))
  | .pointer none => some .nilptr
  | .slice none 0 0 => some .nils
  | .map none => some .nilmap
  | .nilFunc => some .nilfunc
  | .nilIface => some .nilif
  | .func (.func f) a c => if a.isEmpty && c.isEmpty then some (.func (.func f) [] []) else none
  | _ => none
def cvals : List Value → Option (List AVal)
  | [] => some []
  | v :: l => match cval v, cvals l with
    | some a, some r => some (a :: r)
    | _, _ => none
def cone : Value → Option AVal
  | .agg cs => (cvals cs.toList).map .agg
  | v => cval v

inductive SO where
  | t (i : Nat)
  | a (p : Nat)
  | k (v : AVal)
structure CS where
  m : List (Nat × SO)
  d : Nat

def idxN (s : Nat) : List Nat → Nat → Option Nat
  | [], _ => none
  | a :: l, i => match Nat.beq s a with
    | true => some i
    | false => idxN s l (i + 1)
def idxL (keep : List Nat) : List Nat → Option (List Nat)
  | [] => some []
  | p :: l => match idxN p keep 0 with
    | none => none
    | some i => match idxL keep l with
      | none => none
      | some r => some (i :: r)
def lookS (s : Nat) : List (Nat × SO) → Option SO
  | [] => none
  | (a, x) :: l => match Nat.beq s a with
    | true => some x
    | false => lookS s l
section
variable (P : Program) (keep : List Nat)

def soOf (c : CS) : Operand → Option SO
  | .tmp s => match lookS s c.m with
    | some x => some x
    | none => (idxN s keep 0).map .t
  | .const v => (cval v).map .k
  | .global g => if Nat.blt g P.globals.size then some (.k (.ptr g 0)) else none
  | .func f => some (.k (.func (.func f) [] []))
def SO.opd (d : Nat) : SO → AOpd
  | .t i => .t i
  | .a p => .l (d - 1 - p)
  | .k v => .k v
def copd (c : CS) (x : Operand) : Option AOpd := (soOf P keep c x).map (·.opd c.d)
def copds (c : CS) : List Operand → Option (List AOpd)
  | [] => some []
  | x :: l => match copd P keep c x, copds c l with
    | some a, some r => some (a :: r)
    | _, _ => none
def copdo (c : CS) : Option Operand → Option (Option AOpd)
  | none => some none
  | some x => (copd P keep c x).map some

def szOf (t : TypeId) : Option Nat := (P.info? t).map (·.size)
def zeroOf (t : TypeId) : Option (List AVal) := match P.info? t with
  | some i => match i.zero with
    | some v => cvals v.cells.toList
    | none => none
  | none => none
def zeroV (t : TypeId) : Option AVal := match P.info? t with
  | some i => match i.zero with
    | some v => cone v
    | none => none
  | none => none
def aggD : TypeDesc → Bool
  | .struct _ | .array _ _ => true
  | _ => false
def aggO (t : TypeId) : Option Bool := (P.underlying t).map aggD
def elOf (t : TypeId) : Option TypeId := match P.underlying t with
  | some (.slice e) => some e
  | _ => none
def isConstO : Operand → Bool
  | .const _ => true
  | _ => false
def cparts (c : CS) (f : Nat → Option (Nat × Nat)) : List (Nat × Operand) → Option (List (Nat × Nat × AOpd))
  | [] => some []
  | (i, x) :: l => match f i, copd P keep c x, cparts c f l with
    | some (o, n), some a, some r => some ((o, n, a) :: r)
    | _, _, _ => none
def methOne (name : String) (t : TypeInfo) (i : Nat) : Option (Nat × List Nat × Bool) := match t.methods.find? (·.name == name) with
  | none => none
  | some m => match m.func with
    | none => none
    | some (f, ptr) => match m.path.toList with
      | [] => match P.underlying i with
        | none => none
        | some (.pointer _) => if ptr then some (f, [], true) else none
        | some _ => if ptr then none else some (f, [], true)
      | [s] => match s.deref, P.underlying s.struct with
        | true, some (.struct fs) => match fs[s.index]? with
          | none => none
          | some fd => match szOf P fd.type with
            | some (_ + 1) => match P.underlying fd.type with
              | none => none
              | some (.pointer _) => if ptr then some (f, [fd.offset], false) else none
              | some d => if ptr then some (f, [fd.offset], true) else if aggD d then none else some (f, [fd.offset], false)
            | _ => none
        | _, _ => none
      | _ => none
def methsOf (name : String) : List TypeInfo → Nat → List (Nat × Nat × List Nat × Bool)
  | [], _ => []
  | t :: l, i => match methOne P name t i with
    | some (f, p, r) => (i, f, p, r) :: methsOf name l (i + 1)
    | none => methsOf name l (i + 1)
def ccallee (c : CS) : Callee → Option ACallee
  | .value (.func f) => some (.fn f)
  | .value x => (copd P keep c x).map .val
  | .invoke x n => (copd P keep c x).map (.meth (methsOf P n P.types.toList 0))
  | _ => none

def cApp (t u : TypeId) (x y : AOpd) : Option AOp := do
  let e ← elOf P t
  let es ← szOf P e
  let z ← zeroOf P e
  if z.length ≠ es ∨ es = 0 ∨ 65536 < P.bytesOf e then none else
  match P.underlying u with
  | some (.slice _) => some (.app e es x y)
  | some .string => if es = 1 then some (.apps e x y) else none
  | some (.int _) => some (.appm e es z x y)
  | _ => none
def cLen (t : TypeId) (x : AOpd) : Option AOp := match P.underlying t with
  | some .string => some (.lens x)
  | some (.slice _) => some (.lenl x)
  | some (.map _ _) => some (.lenm x)
  | _ => none
def cCopy (t u : TypeId) (x y : AOpd) : Option AOp := do
  let e ← elOf P t
  let es ← szOf P e
  if es = 0 then none else
  match P.underlying u with
  | some (.slice _) => some (.copy es x y)
  | some .string => if es = 1 then some (.copys x y) else none
  | _ => none
def cClr (t : TypeId) (x : AOpd) : Option AOp := do
  let e ← elOf P t
  let z ← zeroOf P e
  some (.clr z x)
def cUstr (t : TypeId) (a n : AOpd) : Option AOp := match P.underlying t with
  | some (.pointer e) => match P.underlying e with
    | some (.int .u8) => if szOf P e = some 1 then some (.ustr e a n) else none
    | _ => none
  | _ => none
def cBuild (c : CS) (t : TypeId) (ps : List (Nat × Operand)) : Option AOp := do
  let z ← zeroOf P t
  match P.underlying t with
  | some (.struct fs) => do
    if fs.all fun f => (szOf P f.type).isSome then
      (cparts P keep c (fun i => (fs[i]?).map fun f => (f.offset, P.cellsOf f.type)) ps).map (.build z)
    else none
  | some (.array _ e) => do
    let n ← szOf P e
    (cparts P keep c (fun i => some (i * n, n)) ps).map (.build z)
  | _ => none
def cBsl (c : CS) (t : TypeId) (n : Nat) (ps : List (Nat × Operand)) : Option AOp := do
  let e ← elOf P t
  let es ← szOf P e
  let z ← zeroOf P e
  if n * es ≤ 2 ^ 24 ∧ z.length = es then (cparts P keep c (fun i => some (i * es, es)) ps).map (.bsl e es n z) else none
def cLoad (t : TypeId) (x : AOpd) : Option AOp := do
  let b ← aggO P t
  let n ← szOf P t
  some (if b then .loadn n x else .load x)
def eqK (t : TypeId) (lit : Bool) : Option EqK := match P.underlying t with
  | some (.pointer e) => do
    let n ← szOf P e
    if n = 0 then none else some .ptr
  | some .bool => some .bool
  | some (.int _) => some .no
  | some .string => some .no
  | some (.slice _) => some .slice
  | some (.map _ _) => some .map
  | some (.func ..) => some .func
  | some (.interface _) => some (.iface lit)
  | _ => none
def cBin (op : BinOp) (t : TypeId) (lit : Bool) (a b : AOpd) : Option AOp :=
  if op matches .eql | .neq then (eqK P t lit).map fun k => .bin op k a b else some (.bin op .no a b)
def cConv (s d : TypeId) (x : AOpd) : Option AOp := match P.underlying s, P.underlying d with
  | some (.int _), some (.int k) => some (.conv k x)
  | some .string, some .string => some (.same x)
  | some (.slice e), some .string => match P.underlying e with
    | some (.int .u8) => some (.b2s x)
    | _ => none
  | some .string, some (.slice e) => match P.underlying e, szOf P e with
    | some (.int .u8), some 1 => some (.s2b e x)
    | _, _ => none
  | some (.slice _), some (.slice e) => match P.underlying e with
    | some (.int .u8) => if s = d then some (.mark x) else none
    | _ => none
  | some (.pointer t), some .unsafePointer => do
    let n ← szOf P t
    if n = 0 then none else some (.p2u x)
  | some .unsafePointer, some (.pointer u) => do
    let n ← szOf P u
    if n ≠ 0 ∧ liesAt P P.depth u 1 0 u 1 = true then some (.u2p u n x) else none
  | _, _ => none
def cMksl (t : TypeId) (l m : AOpd) : Option AOp := do
  let e ← elOf P t
  let es ← szOf P e
  let z ← zeroOf P e
  if z.length = es ∧ P.bytesOf e ≤ 65536 then some (.mksl e es z l m) else none
def cSlice (t : TypeId) (x : AOpd) (l h m : Option AOpd) : Option AOp := match P.underlying t with
  | some .string => match m with | none => some (.slcs x l h) | _ => none
  | some (.slice e) => if m.isSome && h.isNone then none else do
    let es ← szOf P e
    some (.slc es x l h m)
  | some (.array n e) => if m.isSome && h.isNone then none else do
    let es ← szOf P e
    some (.slca n es x l h m)
  | _ => none
def cFaddr (s : TypeId) (i : Nat) (x : AOpd) : Option AOp := match P.underlying s with
  | some (.struct fs) => do
    let f ← fs[i]?
    let n ← szOf P f.type
    if n = 0 then none else some (.faddr f.offset x)
  | _ => none
def cField (t : TypeId) (i : Nat) (x : AOpd) : Option AOp := match P.underlying t with
  | some (.struct fs) => do
    let f ← fs[i]?
    let b ← aggO P f.type
    let n ← szOf P f.type
    some (.field f.offset (if b then some n else none) x)
  | _ => none
def cIaddr (t : TypeId) (x i : AOpd) : Option AOp := match P.underlying t with
  | some (.slice e) => do
    let es ← szOf P e
    some (.iaddr es x i)
  | some (.array n e) => do
    let es ← szOf P e
    some (.iaddra n es x i)
  | _ => none
def keyK (t : TypeId) : Option KeyK := match P.underlying t with
  | some (.int _) => some .int
  | some .string => some .str
  | some (.pointer e) => do
    let n ← szOf P e
    if n = 0 then none else some .ptr
  | _ => none
def cDel (t : TypeId) (m k : AOpd) : Option AOp := match P.underlying t with
  | some (.map kt _) => (keyK P kt).map fun kk => .del kk m k
  | _ => none
def cLook (t : TypeId) (ok : Bool) (x i : AOpd) : Option AOp := match P.underlying t with
  | some (.map kt e) => do some (.look (← keyK P kt) (← zeroV P e) ok x i)
  | _ => none
def cMupd (t : TypeId) (m k x : AOpd) : Option AOp := match P.underlying t with
  | some (.map kt _) => (keyK P kt).map fun kk => .mupd kk m k x
  | _ => none
def cTass (t : TypeId) (x : AOpd) : Option AOp := match P.underlying t with
  | some (.interface _) => none
  | some _ => (zeroV P t).map fun z => .tass t z x
  | none => none

def cbuiltin (b : Builtin) (ts : List TypeId) (xs : List AOpd) : Option AOp := match b, ts, xs with
  | .append, [t, u], [x, y] => cApp P t u x y
  | .cap, [t], [x] => (elOf P t).map fun _ => .cap x
  | .len, [t], [x] => cLen P t x
  | .copy, [t, u], [x, y] => cCopy P t u x y
  | .delete, [t, _], [m, k] => cDel P t m k
  | .max, _, x :: l => some (.mm true x l)
  | .min, _, x :: l => some (.mm false x l)
  | .clear, [t], [x] => cClr P t x
  | .recover, [], [] => some .recover
  | .unsafeString, t :: _, [a, n] => cUstr P t a n
  | .unsafeSliceData, _, [x] => some (.usd x)
  | _, _, _ => none

def cop (c : CS) (o : Oper) : Option AOp := match o.op with
  | .move x | .assign x => (copd P keep c x).map .mov
  | .pick x a b => do some (.pick (← copd P keep c x) (← copd P keep c a) (← copd P keep c b))
  | .box el x => do some (.box el (P.cellsOf el) (← copd P keep c x))
  | .alloc el => do some (.alloc el (P.cellsOf el) (← zeroOf P el))
  | .build t ps => cBuild P keep c t ps.toList
  | .buildSlice t n ps => cBsl P keep c t n ps.toList
  | .load t x => do cLoad P t (← copd P keep c x)
  | .store t a x => do some (.store (← szOf P t) (← copd P keep c a) (← copd P keep c x))
  | .nilCheck x => (copd P keep c x).map .nilc
  | .binOp op t x y _ => do cBin P op t (isConstO x || isConstO y) (← copd P keep c x) (← copd P keep c y)
  | .unOp op _ x => (copd P keep c x).map (.un op)
  | .convert s d x => do cConv P s d (← copd P keep c x)
  | .makeInterface t x => match P.underlying t with
    | some (.interface _) => none
    | some _ => (copd P keep c x).map (.mkif t)
    | none => none
  | .makeFunc (.func f) a b => do some (.mkfn f (← copds P keep c a.toList) (← copds P keep c b.toList))
  | .makeMap _ none => some .mkmap
  | .makeSlice t l m => do cMksl P t (← copd P keep c l) (← copd P keep c m)
  | .slice t x l h m => do cSlice P t (← copd P keep c x) (← copdo P keep c l) (← copdo P keep c h) (← copdo P keep c m)
  | .fieldAddr s x i => do cFaddr P s i (← copd P keep c x)
  | .field t x i => do cField P t i (← copd P keep c x)
  | .indexAddr t x i => do cIaddr P t (← copd P keep c x) (← copd P keep c i)
  | .index t x i => match P.underlying t with
    | some .string => do some (.idx (← copd P keep c x) (← copd P keep c i))
    | some (.array n el) => do some (.aidx n (← szOf P el) (← aggO P el) (← copd P keep c x) (← copd P keep c i))
    | _ => none
  | .lookup t x i ok => do cLook P t ok (← copd P keep c x) (← copd P keep c i)
  | .mapUpdate t m k x => do cMupd P t (← copd P keep c m) (← copd P keep c k) (← copd P keep c x)
  | .range t x => match P.underlying t with
    | some .string => (copd P keep c x).map .rngs
    | some (.map _ _) => (copd P keep c x).map .rngm
    | _ => none
  | .next it s => if s then none else (copd P keep c it).map .next
  | .entry it => (copd P keep c it).map .ent
  | .typeAssert x _ t ok => if ok then do cTass P t (← copd P keep c x) else match P.underlying t with
    | some (.interface _) => none
    | some _ => (copd P keep c x).map (.tass1 t)
    | none => none
  | .extract x i => (copd P keep c x).map (.ext i)
  | .call f => do
    let args ← copds P keep c f.args.toList
    match f.callee with
    | .builtin b => cbuiltin P b f.argTypes.toList args
    | g => (ccallee P keep c g).map fun g => .call g args
  | .defer f => match f.callee with
    | .value x => do some (.defer (← copd P keep c x) (← copds P keep c f.args.toList))
    | _ => none
  | .panic x => (copd P keep c x).map .panic
  | _ => none

def cspec (c : CS) (o : Oper) : Option AOp := match o.op with
  | .next it s => match s with
    | true => none
    | false => (copd P keep c it).map .next
  | .call f => match f.callee with
    | .builtin .recover => some .recover
    | .builtin _ => none
    | g => match copds P keep c f.args.toList, ccallee P keep c g with
      | some args, some q => some (.call q args)
      | _, _ => none
  | .defer f => match f.callee with
    | .value x => match copd P keep c x, copds P keep c f.args.toList with
      | some x, some args => some (.defer x args)
      | _, _ => none
    | _ => none
  | .panic x => (copd P keep c x).map .panic
  | _ => none
def cstep (c : CS) (o : Oper) : Option AOp := match cspec P keep c o with
  | some op => some op
  | none => match cop P keep c o with
    | some op => if op.denV.isSome || op.denH.isSome then some op else none
    | none => none

def dropT (i : Nat) : List (Nat × SO) → List (Nat × SO)
  | [] => []
  | (s, x) :: l => match x with
    | .t j => match Nat.beq i j with
      | true => dropT i l
      | false => (s, x) :: dropT i l
    | x => (s, x) :: dropT i l
def dropS (s : Nat) : List (Nat × SO) → List (Nat × SO)
  | [] => []
  | (a, x) :: l => match Nat.beq s a with
    | true => dropS s l
    | false => (a, x) :: dropS s l
def assigned (ops : List Oper) (i : Nat) : Bool := match nth i keep with
  | some s => ops.any fun o => match o.dst with | some d => Nat.beq d s | none => false
  | none => true

def aliasOf (all : List Oper) (c : CS) (o : Oper) : Option SO := match o.op with
  | .move x | .assign x => match soOf P keep c x with
    | some (.t i) => if assigned keep all i then none else some (.t i)
    | r => r
  | _ => none
def movOf (o : Oper) : Option Operand := match o.op with
  | .move x | .assign x => some x
  | _ => none
def guardOf (all : List Oper) (c : CS) (o : Oper) : Option (Option (AOpd × Bool)) := match o.guard with
  | none => some none
  | some (j, b) => match (nth j all).bind (·.dst) with
    | some s => (copd P keep c (.tmp s)).map fun x => some (x, b)
    | none => none
def keptOf (o : Oper) : Option Nat := match o.dst with
  | some s => idxN s keep 0
  | none => none
def putCS (c : CS) (d : Option Nat) : CS := ⟨(match d with | some s => (s, SO.a c.d) :: dropS s c.m | none => c.m), c.d + 1⟩
def cops (all : List Oper) : CS → List Oper → List AOper × CS
  | c, [] => ([], c)
  | c, o :: l => match guardOf P keep all c o with
    | none => ([⟨.bad, none⟩], c)
    | some g => match keptOf keep o with
      | some i => match g with
        | some _ => ([⟨.bad, none⟩], c)
        | none => match movOf o with
          | some x => match copd P keep c x with
            | some x =>
              let r := cops all ⟨dropS (o.dst.getD 0) (dropT i c.m), c.d⟩ l
              (⟨.set i x, none⟩ :: r.1, r.2)
            | none => ([⟨.bad, none⟩], c)
          | none => match cstep P keep c o with
            | some op =>
              let r := cops all ⟨dropS (o.dst.getD 0) (dropT i c.m), c.d + 1⟩ l
              (⟨op, none⟩ :: ⟨.set i (.l 0), none⟩ :: r.1, r.2)
            | none => ([⟨.bad, none⟩], c)
      | none => match g, o.dst, aliasOf P keep all c o with
        | none, some s, some x => cops all ⟨(s, x) :: dropS s c.m, c.d⟩ l
        | _, _, _ => match cstep P keep c o with
          | some op =>
            let r := cops all (putCS c o.dst) l
            (⟨op, g⟩ :: r.1, r.2)
          | none => ([⟨.bad, none⟩], c)

def lastD (s : Nat) : List (Option Nat) → Nat → Option Nat
  | [], _ => none
  | d :: l, j => match d with
    | some a => match Nat.beq s a with
      | true => some j
      | false => lastD s l (j + 1)
    | none => lastD s l (j + 1)
def tmpsOf (o : Oper) : List Nat := o.op.operands.toList.filterMap fun | .tmp t => some t | _ => none
def guardS (all : List Oper) (o : Oper) : List Nat := match o.guard with
  | some (j, _) => match (nth j all).bind (·.dst) with
    | some s => [s]
    | none => []
  | none => []
def looksOf (all : List Oper) (o : Oper) : List Nat := tmpsOf o ++ guardS all o
def csD (ds : List (Option Nat)) (ls : List Nat) : CS := ⟨ls.filterMap fun s => (lastD s ds 0).map fun j => (s, SO.a (ds.length - 1 - j)), ds.length⟩
def isMod : AOp → Bool
  | .store .. | .call .. | .app .. | .apps .. | .copy .. | .copys .. | .mupd .. | .del .. | .clr .. | .ustr .. | .mark .. | .appm .. => true
  | _ => false
def memK : AOp → Nat
  | .load .. | .loadn .. | .look .. | .lenm .. | .b2s .. | .p2u .. | .u2p .. | .ent .. => 1
  | .bin op _ _ _ => if op matches .eql | .neq then 1 else 0
  | _ => 0
def kindD (o : AOp) : Nat := match o.denV with
  | some _ => memK o
  | none => match o.denH with
    | some _ => 2
    | none => match o with
      | .call .. => 2
      | _ => 3
def calloc (c : CS) (o : Oper) : Option AOp := match o.op with
  | .box el x => (copd P keep c x).map (.box el (P.cellsOf el))
  | .alloc el => (zeroOf P el).map (.alloc el (P.cellsOf el))
  | .buildSlice t n ps => cBsl P keep c t n ps.toList
  | .makeSlice t l m => match copd P keep c l, copd P keep c m with
    | some l, some m => cMksl P t l m
    | _, _ => none
  | .convert s t x => match copd P keep c x with
    | some x => match cConv P s t x with
      | some (.s2b el y) => some (.s2b el y)
      | _ => none
    | none => none
  | _ => none
structure DI where
  i : Nat
  o : Oper
  op : AOp
  g : Option (AOpd × Bool)
  k : Nat
def compD (all : List Oper) : List (Option Nat) → List (Oper × Nat) → Option (List DI)
  | _, [] => some []
  | ds, (o, i) :: l =>
    let c := csD ds (looksOf all o)
    match guardOf P keep all c o, compD all (o.dst :: ds) l with
    | some g, some r => match calloc P keep c o with
      | some op => some (⟨i, o, op, g, 4⟩ :: r)
      | none => match cstep P keep c o with
        | some op => some (⟨i, o, op, g, kindD op⟩ :: r)
        | none => none
    | _, _ => none
def befOne (o : Oper) (acc : List Nat) : Nat := o.after.toList.foldl (fun s e => if Region.binds .any e then s ||| 2 ^ e.on ||| acc.getD e.on 0 else s) 0
def befs : List Oper → List Nat → List Nat
  | [], acc => acc
  | o :: l, acc => befs l (acc ++ [befOne o acc])
def aftOk : List Oper → Nat → Bool
  | [], _ => true
  | o :: l, i => (o.after.toList.all fun e => !Region.binds .any e || Nat.blt e.on i) && aftOk l (i + 1)
def ordB (bf : List Nat) (i j : Nat) : Bool := (bf.getD j 0).testBit i
def flipN (b : Nat) : List Nat → Nat
  | [] => b
  | i :: l => flipN (b ^^^ 2 ^ i) l
def permD (bf : List Nat) : List (Nat × Bool × Bool) → List Nat → Nat → List Nat
  | [], dl, _ => dl
  | (i, m, f) :: l, dl, db =>
    let b := bf.getD i 0
    if m then
      let fl := dl.filter fun j => b.testBit j
      fl ++ i :: permD bf l (dl.filter fun j => !b.testBit j) (flipN db fl)
    else if f || b &&& db != 0 then permD bf l (dl ++ [i]) (db ||| 2 ^ i)
    else i :: permD bf l dl db
def apartD (all : List Oper) (x y : Oper) : Bool :=
  (match x.dst with
    | some s => !(looksOf all y).contains s && y.dst != some s
    | none => true) &&
  (match y.dst with
    | some s => !(looksOf all x).contains s
    | none => true)
def pairOk (bf : List Nat) (all : List Oper) (x y : DI) : Bool :=
  x.i != y.i && !ordB bf y.i x.i && (ordB bf x.i y.i || (!(x.k == 2 && y.k == 2) && !(x.k == 4 && y.k == 2) && apartD all x.o y.o))
def pairsOk (bf : List Nat) (all : List Oper) : List DI → Bool
  | [] => true
  | x :: l => l.all (pairOk bf all x) && pairsOk bf all l
def cfOf (bf : List Nat) (n : Nat) (l : List (DI × Nat)) : List (Nat × Nat) := l.flatMap fun x => if x.1.k == 1 then
    l.filterMap fun y => if y.1.k == 2 && (!ordB bf x.1.i y.1.i && !ordB bf y.1.i x.1.i) then some (n - 1 - x.2, n - 1 - y.2) else none
  else []
def fixK (fs : List Nat) (x : DI) : DI := if x.k == 4 && !fs.contains x.i then { x with k := 2 } else x
def coverD (n : Nat) (l : List DI) : Bool := (List.range n).all fun i => l.any fun x => x.i == i
def srcD (ops : List Oper) (x : DI) : Bool := match ops[x.i]? with
  | some _ => true
  | none => false
def drawD (bf : List Nat) (ops : List Oper) (order : List Nat) (fs : List Nat) : ACode := match compD P keep ops [] (order.filterMap fun i => (ops[i]?).map fun o => (o, i)) with
  | none => .bad
  | some l =>
    let l := l.map (fixK fs)
    if aftOk ops 0 && coverD ops.length l && pairsOk bf ops l && l.all (fun x => x.k != 3) then
      .draw (l.map fun x => (⟨x.op, x.g⟩, x.k == 4)) (l.filter fun x => x.k == 4).length (keep.map fun s => lastD s (l.reverse.map fun x => x.o.dst) 0) (cfOf bf l.length l.zipIdx)
    else .bad
def cdraw (ops : List Oper) : ACode := match compD P keep ops [] ops.zipIdx with
  | none => .bad
  | some l =>
    let bf := befs ops []
    let ms := l.filter fun x => x.k == 2 || x.k == 4
    let fs := (ms.filter fun x => x.k == 4 && ms.any fun y => y.i != x.i && !ordB bf x.i y.i && !ordB bf y.i x.i).map (·.i)
    match fs with
    | [] => drawD P keep bf ops (List.range ops.length) []
    | _ => drawD P keep bf ops (permD bf (l.map fun x => (x.i, (x.k == 2 || x.k == 4) && !fs.contains x.i, fs.contains x.i)) [] 0) fs

def dstOk (nt : Nat) : List Oper → Bool
  | [] => true
  | o :: l => match o.dst with
    | none => dstOk nt l
    | some s => match Nat.blt s nt with
      | true => dstOk nt l
      | false => false
def ccode (nt : Nat) : Nat → Code → ACode
  | _, .skip | _, .label _ => .skip
  | _, .ret => .ret
  | _, .exit i => .exit i
  | _, .region _ ops draw => match dstOk nt ops.toList with
    | false => .bad
    | true => if draw then cdraw P keep ops.toList else .reg (cops P keep ops.toList ⟨[], 0⟩ ops.toList).1
  | p, .seq (.region _ ops false) (.cond x a b) => match dstOk nt ops.toList with
    | false => .bad
    | true =>
      let r := cops P keep ops.toList ⟨[], 0⟩ ops.toList
      match copd P keep r.2 x with
      | some x => .regc r.1 x (ccode nt (2 * p) a) (ccode nt (2 * p + 1) b)
      | none => .bad
  | p, .seq a b => .seq (ccode nt (2 * p) a) (ccode nt (2 * p + 1) b)
  | p, .cond c a b => match copd P keep ⟨[], 0⟩ c with
    | some c => .cond c (ccode nt (2 * p) a) (ccode nt (2 * p + 1) b)
    | _ => .bad
  | p, .block i c => .block i (ccode nt (2 * p) c)
  | p, .loop c => .loop (ccode nt (2 * p) c)
  | p, .scope c => ccode nt (2 * p) c
  | p, .rangeFunc f ps _ _ => match copd P keep ⟨[], 0⟩ f with
    | some f => match idxL keep ps.toList with
      | some ps => .rf p ps f
      | none => .bad
    | _ => .bad
  | _, _ => .bad
def crfs : Nat → Code → List (Nat × Code × Code)
  | p, .seq (.region _ _ false) (.cond _ a b) => crfs (2 * p) a ++ crfs (2 * p + 1) b
  | p, .seq a b => crfs (2 * p) a ++ crfs (2 * p + 1) b
  | p, .cond _ a b => crfs (2 * p) a ++ crfs (2 * p + 1) b
  | p, .block _ c | p, .loop c | p, .scope c => crfs (2 * p) c
  | p, .rangeFunc _ _ a b => (p, a, b) :: crfs (2 * p) a ++ crfs (2 * p + 1) b
  | _, _ => []
def cres : List ResultVar → Option (List ARes)
  | [] => some []
  | .tmp t :: l => match idxN t keep 0, cres l with
    | some i, some r => some (.t i :: r)
    | _, _ => none
  | .cell a t :: l => match idxN a keep 0, aggO P t, szOf P t, cres l with
    | some i, some b, some n, some r => some (.cell i (if b then some n else none) :: r)
    | _, _, _, _ => none
end
end Go.Ai

namespace Go.Ai

theorem nth_eq {α : Type} : ∀ (i : Nat) (l : List α), nth i l = l[i]?
  | 0, [] => rfl
  | 0, _ :: _ => rfl
  | _ + 1, [] => rfl
  | i + 1, _ :: l => by simp [nth, nth_eq i l]

theorem takeN_eq {α : Type} : ∀ (n : Nat) (l : List α), takeN n l = if n ≤ l.length then some (l.take n) else none
  | 0, l => by simp [takeN]
  | n + 1, [] => by simp [takeN]
  | n + 1, x :: l => by
    simp only [takeN, takeN_eq n l, List.length_cons, List.take_succ_cons]
    by_cases h : n ≤ l.length
    · simp [h]
    · simp [h]

theorem dropN_eq {α : Type} : ∀ (n : Nat) (l : List α), dropN n l = if n ≤ l.length then some (l.drop n) else none
  | 0, l => by simp [dropN]
  | n + 1, [] => by simp [dropN]
  | n + 1, x :: l => by simp [dropN, dropN_eq n l]

theorem part_eq {α : Type} (o n : Nat) (l : List α) : part o n l = if o + n ≤ l.length then some ((l.drop o).take n) else none := by
  unfold part
  rw [dropN_eq]
  by_cases h : o ≤ l.length
  · rw [if_pos h]
    simp only [takeN_eq, List.length_drop]
    by_cases h' : o + n ≤ l.length
    · rw [if_pos h', if_pos (by omega)]
    · rw [if_neg h', if_neg (by omega)]
  · rw [if_neg h, if_neg (by omega)]

theorem over_eq {α : Type} : ∀ (x l : List α), over x l = if x.length ≤ l.length then some (x ++ l.drop x.length) else none
  | [], l => by simp [over]
  | _ :: _, [] => by simp [over]
  | a :: x, _ :: l => by
    simp only [over, over_eq x l, List.length_cons]
    by_cases h : x.length ≤ l.length <;> simp [h]

theorem overAt_eq {α : Type} : ∀ (o : Nat) (x l : List α), overAt o x l = if o + x.length ≤ l.length then some (l.take o ++ x ++ l.drop (o + x.length)) else none
  | 0, x, l => by simp [overAt, over_eq]
  | o + 1, x, [] => by
    simp only [overAt, List.length_nil]
    rw [if_neg (by omega)]
  | o + 1, x, y :: l => by
    simp only [overAt, overAt_eq o x l, List.length_cons]
    by_cases h : o + x.length ≤ l.length
    · rw [if_pos h, if_pos (by omega)]
      have e : o + 1 + x.length = (o + x.length) + 1 := by omega
      simp [e]
    · rw [if_neg h, if_neg (by omega)]

theorem setN_eq (i : Nat) (v : AVal) (l : TM) : setN i v l = l.set i v := by
  induction l generalizing i with
  | nil => cases i <;> simp [setN]
  | cons a l ih => cases i with
    | zero => simp [setN]
    | succ i => simp [setN, ih]

theorem bitsF_div : ∀ (f g n : Nat), n ≤ f → n ≤ g → bitsF f n = bitsF g n
  | 0, 0, _, _, _ => rfl
  | 0, g + 1, n, h, _ => by
    obtain rfl : n = 0 := by omega
    simp [bitsF]
  | f + 1, 0, n, _, h => by
    obtain rfl : n = 0 := by omega
    simp [bitsF]
  | f + 1, g + 1, n, hf, hg => by
    simp only [bitsF]
    cases h : Nat.beq n 0 with
    | true => rfl
    | false =>
      have hn : n ≠ 0 := Nat.ne_of_beq_eq_false h
      have : Nat.div n 2 < n := Nat.div_lt_self (by omega) (by omega)
      simp only
      rw [bitsF_div f g _ (by omega) (by omega)]
theorem bits_zero : bits 0 = [] := rfl
theorem bits_pos (n : Nat) (h : n ≠ 0) : bits n = (Nat.beq (n % 2) 1) :: bits (n / 2) := by
  unfold bits
  obtain ⟨m, rfl⟩ : ∃ m, n = m + 1 := ⟨n - 1, by omega⟩
  have hlt : (m + 1) / 2 < m + 1 := Nat.div_lt_self (by omega) (by omega)
  have hb : Nat.beq (m + 1) 0 = false := rfl
  show (match Nat.beq (m + 1) 0 with | true => [] | false => Nat.beq (Nat.mod (m + 1) 2) 1 :: bitsF m (Nat.div (m + 1) 2)) = _
  rw [hb]
  show Nat.beq ((m + 1) % 2) 1 :: bitsF m ((m + 1) / 2) = _
  rw [bitsF_div m ((m + 1) / 2) _ (by omega) (Nat.le_refl _)]
theorem bits_inj : ∀ (a b : Nat), bits a = bits b → a = b := by
  intro a
  induction a using Nat.strongRecOn with
  | _ a ih =>
    intro b h
    by_cases ha : a = 0
    · subst ha
      by_cases hb : b = 0
      · exact hb.symm
      · rw [bits_zero, bits_pos b hb] at h; cases h
    · by_cases hb : b = 0
      · subst hb; rw [bits_zero, bits_pos a ha] at h; cases h
      · rw [bits_pos a ha, bits_pos b hb] at h
        injection h with h1 h2
        have := ih (a / 2) (Nat.div_lt_self (by omega) (by omega)) (b / 2) h2
        have ha2 : a % 2 = 0 ∨ a % 2 = 1 := by omega
        have hb2 : b % 2 = 0 ∨ b % 2 = 1 := by omega
        have e : (a % 2 = 1) ↔ (b % 2 = 1) := by
          rcases ha2 with x | x <;> rcases hb2 with y | y <;> simp_all
        omega
theorem getP_nil {α : Type} (p : List Bool) : (PT.nil : PT α).getP p = none := by cases p <;> rfl
theorem getP_setP_self {α : Type} : ∀ (p : List Bool) (t : PT α) (x : Option α), (t.setP p x).getP p = x
  | [], .nil, _ => rfl
  | [], .node _ _ _, _ => rfl
  | true :: p, .nil, x => by simp only [PT.setP, PT.getP]; exact getP_setP_self p _ x
  | false :: p, .nil, x => by simp only [PT.setP, PT.getP]; exact getP_setP_self p _ x
  | true :: p, .node _ _ _, x => by simp only [PT.setP, PT.getP]; exact getP_setP_self p _ x
  | false :: p, .node _ _ _, x => by simp only [PT.setP, PT.getP]; exact getP_setP_self p _ x
theorem getP_setP_ne {α : Type} : ∀ (p q : List Bool) (t : PT α) (x : Option α), p ≠ q → (t.setP p x).getP q = t.getP q
  | [], [], _, _, h => absurd rfl h
  | [], b :: q, .nil, _, _ => by cases b <;> simp [PT.setP, PT.getP, getP_nil]
  | [], b :: q, .node _ _ _, _, _ => by cases b <;> simp [PT.setP, PT.getP]
  | b :: p, [], .nil, _, _ => by cases b <;> simp [PT.setP, PT.getP]
  | b :: p, [], .node _ _ _, _, _ => by cases b <;> simp [PT.setP, PT.getP]
  | b :: p, c :: q, t, x, h => by
    by_cases hbc : b = c
    · subst hbc
      have hpq : p ≠ q := fun e => h (by rw [e])
      cases t <;> cases b <;> simp only [PT.setP, PT.getP] <;> rw [getP_setP_ne p q _ x hpq] <;> simp [getP_nil]
    · cases t <;> cases b <;> cases c <;> simp_all [PT.setP, PT.getP, getP_nil]
theorem get_set {α : Type} (t : PT α) (a b : Nat) (x : Option α) : (t.set a x).get b = if a = b then x else t.get b := by
  unfold PT.set PT.get
  by_cases h : a = b
  · subst h; rw [if_pos rfl, getP_setP_self]
  · rw [if_neg h, getP_setP_ne _ _ _ _ (fun e => h (bits_inj _ _ e))]

theorem get_put (h : H) (a b : Nat) (x : AObj) : (h.put a x).get b = if a = b then some x else h.get b := get_set _ _ _ _
theorem get_kill (h : H) (a b : Nat) : (h.kill a).get b = if a = b then none else h.get b := get_set _ _ _ _
theorem get_new (h : H) (b : Nat) (x : AObj) : (h.new x).get b = if h.nx = b then some x else h.get b := get_set _ _ _ _
theorem nx_put (h : H) (a : Nat) (x : AObj) : (h.put a x).nx = h.nx := rfl
theorem nx_kill (h : H) (a : Nat) : (h.kill a).nx = h.nx := rfl
theorem nx_new (h : H) (x : AObj) : (h.new x).nx = h.nx + 1 := rfl

theorem ilt_eq (a b : Int) : ilt a b = decide (a < b) := by
  cases a <;> cases b <;> simp only [ilt]
  · rw [Bool.eq_iff_iff]; simp [Nat.blt_eq]
  · rw [Bool.eq_iff_iff]; simp; omega
  · rw [Bool.eq_iff_iff]; simp; omega
  · rw [Bool.eq_iff_iff]; simp [Nat.blt_eq]; omega
theorem ieq_eq (a b : Int) : ieq a b = (a == b) := by
  cases a <;> cases b <;> simp only [ieq] <;> rw [Bool.eq_iff_iff] <;> simp <;> omega
theorem ile_eq (a b : Int) : ile a b = decide (a ≤ b) := by
  unfold ile; rw [ilt_eq, Bool.eq_iff_iff]; simp
theorem kEq_eq (a b : IntKind) : kEq a b = decide (a = b) := by cases a <;> cases b <;> rfl
theorem kPow_eq (k : IntKind) : (kPow k : Int) = 2 ^ k.bits := by cases k <;> rfl
theorem imod_eq (n : Int) (m : Nat) (hm : 0 < m) : (imod n m : Int) = n % (m : Int) := by
  cases n with
  | ofNat a => rfl
  | negSucc a =>
    simp only [imod]
    have h1 : a % m < m := Nat.mod_lt _ hm
    show ((m - 1 - a % m : Nat) : Int) = _
    rw [Int.negSucc_emod a (by omega)]
    omega
theorem wrapA_eq (k : IntKind) (n : Int) : wrapA k n = k.wrap n := by
  have hp : 0 < kPow k := by cases k <;> decide
  unfold wrapA fromMod IntKind.wrap
  rw [← kPow_eq, ← imod_eq n (kPow k) hp]
  have hlt : imod n (kPow k) < kPow k := by
    have := imod_eq n (kPow k) hp
    have h2 := Int.emod_lt_of_pos n (show (0 : Int) < kPow k by omega)
    omega
  generalize imod n (kPow k) = m at hlt
  cases h : Nat.blt m (kHalf k) with
  | true =>
    simp only
    have hm : m < kHalf k := by simpa [Nat.blt_eq] using h
    rw [if_neg]
    · rfl
    · cases k <;> simp [IntKind.signed, IntKind.bits, kHalf] at * <;> omega
  | false =>
    simp only
    have hm : ¬ m < kHalf k := by
      intro hc; have : Nat.blt m (kHalf k) = true := by simpa [Nat.blt_eq] using hc
      rw [h] at this; cases this
    rw [Int.subNatNat_eq_coe]
    rw [if_pos]
    cases k <;> simp [IntKind.signed, IntKind.bits, kHalf, kPow] at * <;> omega

end Go.Ai

namespace Go.Ai

structure Place where
  blk : Nat
  sh : Nat
  sz : Nat
  es : Nat
abbrev Rho := Nat → Option Place

inductive FnR (ρ : Rho) : Fn → Fn → Prop
  | func (f : FuncId) : FnR ρ (.func f) (.func f)
  | yield (l : Nat) (pl : Place) : ρ l = some pl → FnR ρ (.yield l) (.yield pl.blk)

mutual
inductive VRel (ρ : Rho) : AVal → Value → Prop
  | bool (b : Bool) : VRel ρ (.bool b) (.bool b)
  | int (k : IntKind) (n : Int) : VRel ρ (.int k n) (.int k n)
  | str (s : ByteArray) : VRel ρ (.str (cstr s)) (.string s)
  | ptr (b o : Nat) (pl : Place) : ρ b = some pl → VRel ρ (.ptr b o) (.pointer (some ⟨pl.blk, pl.sh + o, none⟩))
  | nilptr : VRel ρ .nilptr (.pointer none)
  | slice (b o n c : Nat) (pl : Place) : ρ b = some pl → VRel ρ (.slice b o n (.ex c)) (.slice (some ⟨pl.blk, pl.sh + o, none⟩) n c)
  | sliceG (b o n c : Nat) (pl : Place) : ρ b = some pl → pl.sh + o + c * pl.es = pl.sz → n ≤ c → VRel ρ (.slice b o n (.gr pl.es)) (.slice (some ⟨pl.blk, pl.sh + o, none⟩) n c)
  | emp (a : Addr) (c : Nat) : VRel ρ .emp (.slice (some a) 0 c)
  | nils : VRel ρ .nils (.slice none 0 0)
  | map (r : Nat) (pl : Place) : ρ r = some pl → VRel ρ (.map r) (.map (some pl.blk))
  | nilmap : VRel ρ .nilmap (.map none)
  | func (fn fn' : Fn) (a c : List AVal) (a' c' : List Value) : FnR ρ fn fn' → VRels ρ a a' → VRels ρ c c' → VRel ρ (.func fn a c) (.func fn' a'.toArray c'.toArray)
  | nilfunc : VRel ρ .nilfunc .nilFunc
  | iface (t : Nat) (v : AVal) (v' : Value) : VRel ρ v v' → VRel ρ (.iface t v) (.iface t v')
  | nilif : VRel ρ .nilif .nilIface
  | agg (l : List AVal) (l' : List Value) : VRels ρ l l' → (∀ v ∈ l', v.oneCell' = true) → VRel ρ (.agg l) (.agg l'.toArray)
  | tup (l : List AVal) (l' : List Value) : VRels ρ l l' → VRel ρ (.tup l) (.tuple l'.toArray)
inductive VRels (ρ : Rho) : List AVal → List Value → Prop
  | nil : VRels ρ [] []
  | cons (a : AVal) (l : List AVal) (a' : Value) (l' : List Value) : VRel ρ a a' → VRels ρ l l' → VRels ρ (a :: l) (a' :: l')
end

def Rho.le (ρ ρ' : Rho) : Prop := ∀ b pl, ρ b = some pl → ρ' b = some pl
theorem Rho.le_refl (ρ : Rho) : ρ.le ρ := fun _ _ h => h
theorem Rho.le_trans {ρ ρ' ρ'' : Rho} (h : ρ.le ρ') (h' : ρ'.le ρ'') : ρ.le ρ'' := fun b pl e => h' b pl (h b pl e)
theorem FnR.mono {ρ ρ' : Rho} (hl : ρ.le ρ') {a b : Fn} (h : FnR ρ a b) : FnR ρ' a b := by
  cases h with
  | func f => exact .func f
  | yield l pl h => exact .yield l pl (hl _ _ h)
mutual
theorem VRel.mono {ρ ρ' : Rho} (hl : ρ.le ρ') : ∀ {a : AVal} {v : Value}, VRel ρ a v → VRel ρ' a v
  | _, _, .bool b => .bool b
  | _, _, .int k n => .int k n
  | _, _, .str s => .str s
  | _, _, .ptr b o pl h => .ptr b o pl (hl _ _ h)
  | _, _, .nilptr => .nilptr
  | _, _, .slice b o n c pl h => .slice b o n c pl (hl _ _ h)
  | _, _, .sliceG b o n c pl h h1 h2 => .sliceG b o n c pl (hl _ _ h) h1 h2
  | _, _, .emp a c => .emp a c
  | _, _, .nils => .nils
  | _, _, .map r pl h => .map r pl (hl _ _ h)
  | _, _, .nilmap => .nilmap
  | _, _, .func fn fn' a c a' c' h h1 h2 => .func fn fn' a c a' c' (h.mono hl) (VRels.mono hl h1) (VRels.mono hl h2)
  | _, _, .nilfunc => .nilfunc
  | _, _, .iface t v v' h => .iface t v v' (VRel.mono hl h)
  | _, _, .nilif => .nilif
  | _, _, .agg l l' h h1 => .agg l l' (VRels.mono hl h) h1
  | _, _, .tup l l' h => .tup l l' (VRels.mono hl h)
theorem VRels.mono {ρ ρ' : Rho} (hl : ρ.le ρ') : ∀ {a : List AVal} {v : List Value}, VRels ρ a v → VRels ρ' a v
  | _, _, .nil => .nil
  | _, _, .cons a l a' l' h h' => .cons a l a' l' (VRel.mono hl h) (VRels.mono hl h')
end

theorem VRels.length {ρ : Rho} : ∀ {a : List AVal} {v : List Value}, VRels ρ a v → a.length = v.length
  | _, _, .nil => rfl
  | _, _, .cons _ _ _ _ _ h => by simp [VRels.length h]
theorem VRels.get {ρ : Rho} : ∀ {a : List AVal} {v : List Value}, VRels ρ a v → ∀ (i : Nat) (x : AVal), a[i]? = some x → ∃ y, v[i]? = some y ∧ VRel ρ x y
  | _, _, .nil, i, x, h => by simp at h
  | _, _, .cons a l a' l' h h', 0, x, e => by
    simp at e; subst e; exact ⟨a', by simp, h⟩
  | _, _, .cons a l a' l' h h', i + 1, x, e => by
    simp at e; obtain ⟨y, hy, hr⟩ := VRels.get h' i x e; exact ⟨y, by simpa using hy, hr⟩
theorem VRels.append {ρ : Rho} : ∀ {a b : List AVal} {v u : List Value}, VRels ρ a v → VRels ρ b u → VRels ρ (a ++ b) (v ++ u)
  | _, _, _, _, .nil, h => h
  | _, _, _, _, .cons a l a' l' h h', hb => .cons _ _ _ _ h (VRels.append h' hb)
theorem VRels.take {ρ : Rho} : ∀ {a : List AVal} {v : List Value} (n : Nat), VRels ρ a v → VRels ρ (a.take n) (v.take n)
  | _, _, 0, _ => by simp; exact .nil
  | _, _, n + 1, .nil => by simp; exact .nil
  | _, _, n + 1, .cons a l a' l' h h' => by simp; exact .cons _ _ _ _ h (VRels.take n h')
theorem VRels.drop {ρ : Rho} : ∀ {a : List AVal} {v : List Value} (n : Nat), VRels ρ a v → VRels ρ (a.drop n) (v.drop n)
  | _, _, 0, h => by simpa using h
  | _, _, n + 1, .nil => by simp; exact .nil
  | _, _, n + 1, .cons a l a' l' h h' => by simpa using VRels.drop n h'
theorem VRels.of_get {ρ : Rho} : ∀ {a : List AVal} {v : List Value}, a.length = v.length → (∀ (i : Nat) (x : AVal), a[i]? = some x → ∃ y, v[i]? = some y ∧ VRel ρ x y) → VRels ρ a v
  | [], [], _, _ => .nil
  | [], _ :: _, h, _ => by simp at h
  | _ :: _, [], h, _ => by simp at h
  | a :: l, v :: u, h, g => by
    obtain ⟨y, hy, hr⟩ := g 0 a (by simp)
    simp at hy; subst hy
    refine .cons _ _ _ _ hr (VRels.of_get (by simpa using h) fun i x e => ?_)
    obtain ⟨y, hy, hr⟩ := g (i + 1) x (by simpa using e)
    exact ⟨y, by simpa using hy, hr⟩
theorem VRels.replicate {ρ : Rho} {a : AVal} {v : Value} (h : VRel ρ a v) : ∀ n, VRels ρ (List.replicate n a) (List.replicate n v)
  | 0 => .nil
  | n + 1 => by simp [List.replicate_succ]; exact .cons _ _ _ _ h (VRels.replicate h n)

theorem VRel.cells {ρ : Rho} {a : AVal} {v : Value} (h : VRel ρ a v) {cs : List AVal} (hc : a.cells = some cs) : VRels ρ cs v.cells.toList ∧ ∀ u ∈ v.cells.toList, u.oneCell' = true := by
  cases h with
  | agg l l' h h1 => obtain rfl := Option.some.inj hc; simpa [Value.cells] using ⟨h, h1⟩
  | tup => cases hc
  | _ => obtain rfl := Option.some.inj hc; exact ⟨.cons _ _ _ _ (by constructor <;> assumption) .nil, by simp [Value.cells, Value.oneCell']⟩

def SlotR (ρ : Rho) (tmps : Array Value) (a : AVal) (s : Nat) : Prop := s < tmps.size ∧ VRel ρ a (tmps.getD s (.tuple #[]))
inductive TMR (ρ : Rho) (tmps : Array Value) : List Nat → TM → Prop
  | nil : TMR ρ tmps [] []
  | cons (s : Nat) (ks : List Nat) (a : AVal) (tm : TM) : SlotR ρ tmps a s → TMR ρ tmps ks tm → TMR ρ tmps (s :: ks) (a :: tm)

structure Stat where
  P : Program
  rfs : Nat → Option (List Nat × Nat × Code × Code)

def APend.R : APend → Option Code → Prop
  | .none, c => c = Option.none
  | .ret, c => c = some .ret
  | .exit i, c => c = some (.exit i)
inductive OptR (ρ : Rho) : Option Nat → Option Nat → Prop
  | none : OptR ρ none none
  | some (r : Nat) (pl : Place) : ρ r = some pl → OptR ρ (some r) (some pl.blk)
inductive EntR (ρ : Rho) : List (AVal × AVal × Nat) → List MapEntry → Prop
  | nil : EntR ρ [] []
  | cons (k v : AVal) (s : Nat) (l : List (AVal × AVal × Nat)) (k' v' : Value) (l' : List MapEntry) : VRel ρ k k' → VRel ρ v v' → EntR ρ l l' → EntR ρ ((k, v, s) :: l) (⟨k', v', s⟩ :: l')
inductive IdxR (keep : List Nat) : List Nat → List Nat → Prop
  | nil : IdxR keep [] []
  | cons (i s : Nat) (l l' : List Nat) : keep[i]? = some s → IdxR keep l l' → IdxR keep (i :: l) (s :: l')

def FzR (sz : Nat) (fz : Bool) (lo hi : Nat) : Prop := (∀ i, i < sz → ¬ (lo ≤ i ∧ i < hi)) ∧ (fz = false → lo = 0 ∧ hi = 0) ∧ lo ≤ hi

def isRO : AObj → Prop
  | .cells _ _ _ .ro _ => True
  | _ => False

def ObjR (S : Stat) (ρ : Rho) (x : AObj) (pl : Place) (o : Obj) : Prop :=
  match x with
  | .cells cs el es kd fz => ∃ c lo hi, o = .cells c el (lo, hi) ∧ c.size = pl.sz ∧ pl.sh + cs.length ≤ pl.sz ∧
      (∀ i a, cs[i]? = some a → ∃ v, c[pl.sh + i]? = some v ∧ v.oneCell' = true ∧ VRel ρ a v) ∧
      (match kd with
        | .own => pl.sh = 0 ∧ pl.sz = cs.length ∧ FzR pl.sz fz lo hi
        | .grow => pl.es = es ∧ FzR pl.sz fz lo hi
        | .ro => True)
  | .map es clock => ∃ es', o = .map es' clock ∧ EntR ρ es es'.toList
  | .iter m since seen last => ∃ m' seen', o = .mapIter m' since seen' last ∧ OptR ρ m m' ∧ seen'.toList = seen ∧ pl.sh = 0
  | .siter s pos => ∃ s', o = .stringIter s' pos ∧ cstr s' = s ∧ pl.sh = 0
  | .loop st pend tm ps id d => ∃ l' keep pl', o = .loop l' ∧ l'.state = st ∧ pend.R l'.pending ∧ S.rfs id = some (keep, l'.tmps.size, l'.assign, l'.body) ∧
      TMR ρ l'.tmps keep tm ∧ IdxR keep ps l'.params.toList ∧ ρ d = some pl' ∧ l'.defers = pl'.blk ∧ ∃ fn, S.P.funcs[l'.fn]? = some fn
  | .deferred up => o = .deferred (if up then some [] else none)

structure HR (S : Stat) (ρ : Rho) (h : H) (w : World) : Prop where
  bound : ∀ b pl, ρ b = some pl → b < h.nx ∧ pl.blk < w.heap.size
  obj : ∀ b pl x, ρ b = some pl → h.get b = some x → ∃ o, w.heap[pl.blk]? = some o ∧ ObjR S ρ x pl o
  inj : ∀ b b' pl pl' x x', ρ b = some pl → ρ b' = some pl' → h.get b = some x → h.get b' = some x' → b ≠ b' → pl.blk = pl'.blk → isRO x ∧ isRO x'
  live : ∀ b x, h.get b = some x → b < h.nx

def Img (ρ : Rho) (h : H) (cb : Nat) : Prop := ∃ b pl x, ρ b = some pl ∧ h.get b = some x ∧ ¬ isRO x ∧ pl.blk = cb
def Liv (ρ : Rho) (h : H) (cb : Nat) : Prop := ∃ b pl x, ρ b = some pl ∧ h.get b = some x ∧ pl.blk = cb
structure Ext (ρ : Rho) (h : H) (w : World) (ρ' : Rho) (h' : H) (w' : World) : Prop where
  le : ρ.le ρ'
  nx : h.nx ≤ h'.nx
  size : w.heap.size ≤ w'.heap.size
  os : w'.os = w.os
  out : w'.output = w.output
  frame : ∀ cb, cb < w.heap.size → ¬ Img ρ h cb → w'.heap[cb]? = w.heap[cb]?
  img : ∀ cb, Img ρ' h' cb → Img ρ h cb ∨ w.heap.size ≤ cb
  liv : ∀ cb, Liv ρ' h' cb → Liv ρ h cb ∨ w.heap.size ≤ cb
  new : ∀ b pl, ρ' b = some pl → ρ b = some pl ∨ h.nx ≤ b

theorem Ext.refl (ρ : Rho) (h : H) (w : World) : Ext ρ h w ρ h w :=
  ⟨Rho.le_refl ρ, Nat.le_refl _, Nat.le_refl _, rfl, rfl, fun _ _ _ => rfl, fun _ h => .inl h, fun _ h => .inl h, fun _ _ h => .inl h⟩
theorem Ext.trans {ρ ρ' ρ'' : Rho} {h h' h'' : H} {w w' w'' : World} (e : Ext ρ h w ρ' h' w') (e' : Ext ρ' h' w' ρ'' h'' w'') : Ext ρ h w ρ'' h'' w'' where
  le := Rho.le_trans e.le e'.le
  nx := Nat.le_trans e.nx e'.nx
  size := Nat.le_trans e.size e'.size
  os := e'.os.trans e.os
  out := e'.out.trans e.out
  frame cb hlt hn := by
    rw [e'.frame cb (Nat.lt_of_lt_of_le hlt e.size) (fun hi => by
      rcases e.img cb hi with h1 | h1
      · exact hn h1
      · exact absurd hlt (by omega)), e.frame cb hlt hn]
  img cb hi := by
    rcases e'.img cb hi with h1 | h1
    · exact e.img cb h1
    · exact .inr (Nat.le_trans e.size h1)
  liv cb hi := by
    rcases e'.liv cb hi with h1 | h1
    · exact e.liv cb h1
    · exact .inr (Nat.le_trans e.size h1)
  new b pl hb := by
    rcases e'.new b pl hb with h1 | h1
    · exact e.new b pl h1
    · exact .inr (Nat.le_trans e.nx h1)

theorem EntR.mono {ρ ρ' : Rho} (hl : ρ.le ρ') : ∀ {a : List (AVal × AVal × Nat)} {v : List MapEntry}, EntR ρ a v → EntR ρ' a v
  | _, _, .nil => .nil
  | _, _, .cons k v s l k' v' l' h h' h'' => .cons k v s l k' v' l' (h.mono hl) (h'.mono hl) (EntR.mono hl h'')
theorem TMR.mono {ρ ρ' : Rho} (hl : ρ.le ρ') {tmps : Array Value} : ∀ {a : List Nat} {v : TM}, TMR ρ tmps a v → TMR ρ' tmps a v
  | _, _, .nil => .nil
  | _, _, .cons s ks a tm h h' => .cons s ks a tm ⟨h.1, h.2.mono hl⟩ (TMR.mono hl h')
theorem OptR.mono {ρ ρ' : Rho} (hl : ρ.le ρ') {a b : Option Nat} (h : OptR ρ a b) : OptR ρ' a b := by
  cases h with
  | none => exact .none
  | some r pl h => exact .some r pl (hl _ _ h)
theorem ObjR.mono {S : Stat} {ρ ρ' : Rho} (hl : ρ.le ρ') {x : AObj} {pl : Place} {o : Obj} (h : ObjR S ρ x pl o) : ObjR S ρ' x pl o := by
  cases x with
  | cells cs el es kd fz =>
    obtain ⟨c, lo, hi, h1, h2, h3, h4, h5⟩ := h
    exact ⟨c, lo, hi, h1, h2, h3, fun i a e => let ⟨v, x, y, z⟩ := h4 i a e; ⟨v, x, y, z.mono hl⟩, h5⟩
  | map es clock => obtain ⟨es', h1, h2⟩ := h; exact ⟨es', h1, h2.mono hl⟩
  | iter m since seen last => obtain ⟨m', seen', h1, h2, h3⟩ := h; exact ⟨m', seen', h1, h2.mono hl, h3⟩
  | siter s pos => exact h
  | loop st pend tm ps id d =>
    obtain ⟨l', keep, pl', h1, h2, h3, h4, h5, h6, h7, h8⟩ := h
    exact ⟨l', keep, pl', h1, h2, h3, h4, h5.mono hl, h6, hl _ _ h7, h8⟩
  | deferred up => exact h

end Go.Ai

namespace Go.Ai
open Go

theorem add_plain (b o n : Nat) : (⟨b, o, none⟩ : Addr).add n = ⟨b, o + n, none⟩ := by
  unfold Addr.add; split
  · rename_i h; subst h; rfl
  · rfl

variable {S : Stat} {ρ : Rho} {h : H} {w : World}

theorem cell_of_heap {w : World} {b o : Nat} {c : Array Value} {el : Nat} {fr : Nat × Nat} (hh : w.heap[b]? = some (.cells c el fr)) : w.cell? ⟨b, o, none⟩ = c[o]? := by
  simp [World.cell?, hh]
theorem frozen_of_heap {w : World} {b o : Nat} {c : Array Value} {el : Nat} {lo hi : Nat} (hh : w.heap[b]? = some (.cells c el (lo, hi))) : w.frozen? ⟨b, o, none⟩ = (decide (lo ≤ o) && decide (o < hi)) := by
  simp [World.frozen?, hh]
theorem shape_of_heap {w : World} {b : Nat} {c : Array Value} {el : Nat} {fr : Nat × Nat} (hh : w.heap[b]? = some (.cells c el fr)) : w.shape? b = some (el, c.size) := by
  simp [World.shape?, hh]

theorem HR.cells (r : HR S ρ h w) {b : Nat} {pl : Place} {cs : List AVal} {el es : Nat} {kd : BKind} {fz : Bool} (hb : ρ b = some pl) (hg : h.get b = some (.cells cs el es kd fz)) :
    ∃ c lo hi, w.heap[pl.blk]? = some (.cells c el (lo, hi)) ∧ c.size = pl.sz ∧ pl.sh + cs.length ≤ pl.sz ∧
      (∀ i a, cs[i]? = some a → ∃ v, c[pl.sh + i]? = some v ∧ v.oneCell' = true ∧ VRel ρ a v) ∧
      (match kd with
        | .own => pl.sh = 0 ∧ pl.sz = cs.length ∧ FzR pl.sz fz lo hi
        | .grow => pl.es = es ∧ FzR pl.sz fz lo hi
        | .ro => True) := by
  obtain ⟨o, ho, c, lo, hi, rfl, h2⟩ := r.obj b pl _ hb hg
  refine ⟨c, lo, hi, ho, h2.1, h2.2.1, h2.2.2.1, ?_⟩
  have := h2.2.2.2
  cases kd <;> exact this

theorem HR.cell (r : HR S ρ h w) {b o : Nat} {pl : Place} {a : AVal} (hb : ρ b = some pl) (hc : cellAt h b o = some a) :
    ∃ v, w.cell? ⟨pl.blk, pl.sh + o, none⟩ = some v ∧ v.oneCell' = true ∧ VRel ρ a v := by
  unfold cellAt at hc
  split at hc
  · rename_i cs el es kd fz hg
    obtain ⟨c, lo, hi, hw, _, _, hcs, _⟩ := r.cells hb hg
    rw [nth_eq] at hc
    obtain ⟨v, hv, h1, h2⟩ := hcs o a hc
    exact ⟨v, by rw [cell_of_heap hw]; exact hv, h1, h2⟩
  · cases hc

def World.cellsFrom (w : World) (b o : Nat) (vs : List Value) : Prop := ∀ i v, vs[i]? = some v → w.cell? ⟨b, o + i, none⟩ = some v

theorem run_loadCellsFrom (P : Program) (w : World) (b o : Nat) : ∀ (n i : Nat) (acc : Array Value) (vs : List Value), vs.length = n → World.cellsFrom w b (o + i) vs →
    (loadCellsFrom ⟨b, o, none⟩ i n acc).run P w = .ok (acc ++ vs.toArray) w
  | 0, i, acc, vs, hl, _ => by
    obtain rfl : vs = [] := List.eq_nil_of_length_eq_zero hl
    simp [loadCellsFrom]
  | n + 1, i, acc, vs, hl, hc => by
    obtain ⟨v, vs, rfl⟩ : ∃ v l, vs = v :: l := by cases vs with | nil => simp at hl | cons v l => exact ⟨v, l, rfl⟩
    have h0 := hc 0 v (by simp)
    simp only [loadCellsFrom, Sem.run_bind, run_load, add_plain]
    rw [Nat.add_zero] at h0
    rw [h0]
    simp only [Result.andThen_ok]
    rw [run_loadCellsFrom P w b o n (i + 1) (acc.push v) vs (by simpa using hl) (fun j u hj => by
      have := hc (j + 1) u (by simpa using hj)
      rw [show o + i + (j + 1) = o + (i + 1) + j by omega] at this; exact this)]
    simp
theorem run_loadCells (P : Program) (w : World) (b o : Nat) (vs : List Value) (hc : World.cellsFrom w b o vs) (n : Nat) (hn : vs.length = n) :
    (loadCells ⟨b, o, none⟩ n).run P w = .ok vs.toArray w := by
  unfold loadCells
  rw [run_loadCellsFrom P w b o n 0 #[] vs hn (by simpa using hc)]
  simp

theorem HR.cellsR (r : HR S ρ h w) {b o n : Nat} {pl : Place} {l : List AVal} (hb : ρ b = some pl) (hc : cellsAt h b o n = some l) :
    l.length = n ∧ ∃ vs, VRels ρ l vs ∧ World.cellsFrom w pl.blk (pl.sh + o) vs ∧ ∀ v ∈ vs, v.oneCell' = true := by
  unfold cellsAt at hc
  split at hc
  · rename_i cs el es kd fz hg
    obtain ⟨c, lo, hi, hw, hsz, hle, hcs, _⟩ := r.cells hb hg
    rw [part_eq] at hc
    split at hc
    · rename_i hlen
      obtain rfl := Option.some.inj hc
      refine ⟨by simp; omega, ((c.toList.drop (pl.sh + o)).take n), ?_, ?_, ?_⟩
      · refine VRels.of_get (by simp; omega) fun i x hx => ?_
        rw [List.getElem?_take] at hx
        split at hx
        · rename_i hi
          rw [List.getElem?_drop] at hx
          obtain ⟨v, hv, _, hr⟩ := hcs _ _ hx
          refine ⟨v, ?_, hr⟩
          rw [List.getElem?_take, if_pos hi, List.getElem?_drop]
          rw [show pl.sh + o + i = pl.sh + (o + i) by omega]
          simpa using hv
        · cases hx
      · intro i v hv
        rw [List.getElem?_take] at hv
        split at hv
        · rw [List.getElem?_drop] at hv
          rw [cell_of_heap hw]; simpa using hv
        · cases hv
      · intro v hv
        obtain ⟨i, hi⟩ := List.getElem?_of_mem hv
        rw [List.getElem?_take] at hi
        split at hi
        · rename_i hlt
          rw [List.getElem?_drop] at hi
          have hx : cs[o + i]? = some (cs[o + i]'(by omega)) := List.getElem?_eq_getElem (by omega)
          obtain ⟨u, hu, h1, _⟩ := hcs _ _ hx
          rw [show pl.sh + (o + i) = pl.sh + o + i by omega] at hu
          have : u = v := by
            have e : c.toList[pl.sh + o + i]? = some u := by simpa using hu
            rw [e] at hi; exact Option.some.inj hi
          exact this ▸ h1
        · cases hi
    · cases hc
  · cases hc

def Rho.with (ρ : Rho) (b : Nat) (pl : Place) : Rho := fun c => if c = b then some pl else ρ c
theorem Rho.with_self (ρ : Rho) (b : Nat) (pl : Place) : ρ.with b pl b = some pl := by simp [Rho.with]
theorem HR.fresh (r : HR S ρ h w) : ρ h.nx = none := by
  cases e : ρ h.nx with
  | none => rfl
  | some pl => exact absurd (r.bound _ _ e).1 (Nat.lt_irrefl _)
theorem HR.le_with (r : HR S ρ h w) (pl : Place) : ρ.le (ρ.with h.nx pl) := by
  intro b p hb
  have : b ≠ h.nx := by rintro rfl; rw [r.fresh] at hb; cases hb
  simp [Rho.with, this, hb]
theorem alloc_get (w : World) (o : Obj) (i : Nat) : (World.alloc w o).heap[i]? = if i = w.heap.size then some o else w.heap[i]? := by
  unfold World.alloc; exact Array.getElem?_push

theorem HR.alloc (r : HR S ρ h w) (x : AObj) (o : Obj) (pl : Place) (hblk : pl.blk = w.heap.size) (hx : ObjR S (ρ.with h.nx pl) x pl o) :
    HR S (ρ.with h.nx pl) (h.new x) (World.alloc w o) ∧ Ext ρ h w (ρ.with h.nx pl) (h.new x) (World.alloc w o) := by
  have hle := r.le_with pl
  have hnl : h.get h.nx = none := by
    cases e : h.get h.nx with
    | none => rfl
    | some y => exact absurd (r.live _ _ e) (Nat.lt_irrefl _)
  have hsz : (World.alloc w o).heap.size = w.heap.size + 1 := World.size_alloc w o
  refine ⟨⟨?_, ?_, ?_, ?_⟩, ⟨hle, by rw [nx_new]; omega, by omega, rfl, rfl, ?_, ?_, ?_, ?_⟩⟩
  · intro b p hb
    rw [nx_new, hsz]
    unfold Rho.with at hb
    split at hb
    · obtain rfl := Option.some.inj hb; omega
    · have := r.bound _ _ hb; omega
  · intro b p y hb hy
    rw [get_new] at hy
    unfold Rho.with at hb
    split at hb
    · rename_i hbn; subst hbn
      obtain rfl := Option.some.inj hb
      rw [if_pos rfl] at hy
      obtain rfl := Option.some.inj hy
      exact ⟨o, by rw [alloc_get, if_pos hblk], hx⟩
    · rename_i hbn
      rw [if_neg (fun e => hbn e.symm)] at hy
      obtain ⟨o', ho', hr⟩ := r.obj _ _ _ hb hy
      have hlt := (r.bound _ _ hb).2
      exact ⟨o', by rw [alloc_get, if_neg (by omega)]; exact ho', hr.mono hle⟩
  · intro b b' p p' y y' hb hb' hy hy' hne he
    rw [get_new] at hy hy'
    unfold Rho.with at hb hb'
    split at hb <;> split at hb'
    · rename_i e1 e2; exact absurd (e1.trans e2.symm) hne
    · obtain rfl := Option.some.inj hb
      have := (r.bound _ _ hb').2; omega
    · obtain rfl := Option.some.inj hb'
      have := (r.bound _ _ hb).2; omega
    · rename_i e1 e2
      rw [if_neg (fun e => e1 e.symm)] at hy
      rw [if_neg (fun e => e2 e.symm)] at hy'
      exact r.inj b b' p p' y y' hb hb' hy hy' hne he
  · intro b y hy
    rw [get_new] at hy
    rw [nx_new]
    split at hy
    · omega
    · have := r.live _ _ hy; omega
  · intro cb hlt _
    rw [alloc_get, if_neg (by omega)]
  · rintro cb ⟨b, p, y, hb, hy, hro, rfl⟩
    rw [get_new] at hy
    unfold Rho.with at hb
    split at hb
    · obtain rfl := Option.some.inj hb; right; omega
    · rename_i e
      rw [if_neg (fun e' => e e'.symm)] at hy
      exact .inl ⟨b, p, y, hb, hy, hro, rfl⟩
  · rintro cb ⟨b, p, y, hb, hy, rfl⟩
    rw [get_new] at hy
    unfold Rho.with at hb
    split at hb
    · obtain rfl := Option.some.inj hb; right; omega
    · rename_i e
      rw [if_neg (fun e' => e e'.symm)] at hy
      exact .inl ⟨b, p, y, hb, hy, rfl⟩
  · intro b p hb
    unfold Rho.with at hb
    split at hb
    · right; omega
    · exact .inl hb

theorem HR.newCells (r : HR S ρ h w) (cs : List AVal) (el es : Nat) (kd : BKind) (vs : List Value) (hv : VRels ρ cs vs) (h1 : ∀ v ∈ vs, v.oneCell' = true)
    (rest : List Value) (hk : kd = .own → rest = []) :
    ∃ pl, pl = (⟨w.heap.size, 0, vs.length + rest.length, es⟩ : Place) ∧ HR S (ρ.with h.nx pl) (h.new (.cells cs el es kd false)) (World.alloc w (.cells (vs ++ rest).toArray el)) ∧
      Ext ρ h w (ρ.with h.nx pl) (h.new (.cells cs el es kd false)) (World.alloc w (.cells (vs ++ rest).toArray el)) := by
  refine ⟨_, rfl, r.alloc _ _ _ rfl ?_⟩
  have hl := hv.length
  refine ⟨(vs ++ rest).toArray, 0, 0, rfl, by simp, by simp; omega, ?_, ?_⟩
  · intro i a hi
    obtain ⟨v, hv', hr⟩ := hv.get i a hi
    have hlt : i < vs.length := (List.getElem?_eq_some_iff.1 hv').1
    refine ⟨v, ?_, h1 v (List.mem_of_getElem? hv'), hr.mono (r.le_with _)⟩
    simp [List.getElem?_append_left hlt, hv']
  · cases kd with
    | own => simp [hk rfl, FzR]; omega
    | grow => simp [FzR]
    | ro => trivial

theorem HR.set (r : HR S ρ h w) {b o : Nat} {pl : Place} {cs : List AVal} {el es : Nat} {kd : BKind} {fz : Bool} {a : AVal} {v : Value} (hb : ρ b = some pl)
    (hg : h.get b = some (.cells cs el es kd fz)) (hkd : kd ≠ .ro) (ho : o < cs.length) (hv : VRel ρ a v) (h1 : v.oneCell' = true) :
    (∃ u, w.cell? ⟨pl.blk, pl.sh + o, none⟩ = some u) ∧ w.frozen? ⟨pl.blk, pl.sh + o, none⟩ = false ∧
      HR S ρ (h.put b (.cells (cs.set o a) el es kd fz)) (w.setCell ⟨pl.blk, pl.sh + o, none⟩ v) ∧
      Ext ρ h w ρ (h.put b (.cells (cs.set o a) el es kd fz)) (w.setCell ⟨pl.blk, pl.sh + o, none⟩ v) := by
  obtain ⟨c, lo, hi, hw, hsz, hle, hcs, hk⟩ := r.cells hb hg
  have hfz : FzR pl.sz fz lo hi := by
    cases kd with
    | own => exact hk.2.2
    | grow => exact hk.2
    | ro => exact absurd rfl hkd
  have hnro : ¬ isRO (.cells cs el es kd fz) := by cases kd <;> simp_all [isRO]
  have hnro' : ¬ isRO (.cells (cs.set o a) el es kd fz) := by cases kd <;> simp_all [isRO]
  have hheap : ∀ i, (w.setCell ⟨pl.blk, pl.sh + o, none⟩ v).heap[i]? = if i = pl.blk then some (.cells (c.setIfInBounds (pl.sh + o) v) el (lo, hi)) else w.heap[i]? := by
    intro i
    simp only [World.setCell, Array.getElem?_modify]
    by_cases hi' : i = pl.blk
    · subst hi'; simp [hw]
    · rw [if_neg hi', if_neg (fun e => hi' e.symm)]
  have hsize : (w.setCell ⟨pl.blk, pl.sh + o, none⟩ v).heap.size = w.heap.size := by simp [World.setCell]
  refine ⟨?_, ?_, ⟨?_, ?_, ?_, ?_⟩, ⟨Rho.le_refl ρ, by rw [nx_put]; omega, by omega, rfl, rfl, ?_, ?_, ?_, ?_⟩⟩
  · rw [cell_of_heap hw]
    exact ⟨c[pl.sh + o]'(by omega), Array.getElem?_eq_getElem (by omega)⟩
  · rw [frozen_of_heap hw]
    have := hfz.1 (pl.sh + o) (by omega)
    simpa using this
  · intro b' p hb'
    rw [nx_put, hsize]; exact r.bound _ _ hb'
  · intro b' p y hb' hy
    rw [get_put] at hy
    by_cases e : b = b'
    · subst e
      rw [if_pos rfl] at hy
      obtain rfl := Option.some.inj hy
      obtain rfl : pl = p := Option.some.inj (hb.symm.trans hb')
      refine ⟨_, by rw [hheap, if_pos rfl], c.setIfInBounds (pl.sh + o) v, lo, hi, rfl, by simpa using hsz, by simpa using hle, ?_, ?_⟩
      · intro i x hx
        rw [List.getElem?_set] at hx
        by_cases e : o = i
        · subst e
          rw [if_pos rfl, if_pos ho] at hx
          obtain rfl := Option.some.inj hx
          exact ⟨v, by rw [Array.getElem?_setIfInBounds]; simp; omega, h1, hv⟩
        · rw [if_neg e] at hx
          obtain ⟨u, hu, hu1, hu2⟩ := hcs i x hx
          exact ⟨u, by rw [Array.getElem?_setIfInBounds, if_neg (by omega)]; exact hu, hu1, hu2⟩
      · cases kd with
        | own => simpa using hk
        | grow => exact hk
        | ro => trivial
    · rw [if_neg e] at hy
      obtain ⟨o', ho', hr⟩ := r.obj _ _ _ hb' hy
      refine ⟨o', ?_, hr⟩
      rw [hheap, if_neg]
      · exact ho'
      · intro eb
        have := (r.inj b b' pl p _ _ hb hb' hg hy e eb.symm).1
        exact hnro this
  · intro b1 b2 p1 p2 y1 y2 hb1 hb2 hy1 hy2 hne he
    rw [get_put] at hy1 hy2
    by_cases e1 : b = b1
    · subst e1
      rw [if_neg hne] at hy2
      obtain rfl : pl = p1 := Option.some.inj (hb.symm.trans hb1)
      exact absurd (r.inj b b2 pl p2 _ _ hb hb2 hg hy2 hne he).1 hnro
    · rw [if_neg e1] at hy1
      by_cases e2 : b = b2
      · subst e2
        obtain rfl : pl = p2 := Option.some.inj (hb.symm.trans hb2)
        exact absurd (r.inj b1 b p1 pl _ _ hb1 hb hy1 hg hne he).2 hnro
      · rw [if_neg e2] at hy2
        exact r.inj b1 b2 p1 p2 y1 y2 hb1 hb2 hy1 hy2 hne he
  · intro b' y hy
    rw [get_put] at hy
    rw [nx_put]
    split at hy
    · rename_i e; subst e; exact r.live _ _ hg
    · exact r.live _ _ hy
  · intro cb hlt hn
    rw [hheap, if_neg]
    rintro rfl
    exact hn ⟨b, pl, _, hb, hg, hnro, rfl⟩
  · rintro cb ⟨b', p, y, hb', hy, hro, rfl⟩
    rw [get_put] at hy
    split at hy
    · rename_i e; subst e
      exact .inl ⟨b, p, _, hb', hg, hnro, rfl⟩
    · exact .inl ⟨b', p, y, hb', hy, hro, rfl⟩
  · rintro cb ⟨b', p, y, hb', hy, rfl⟩
    rw [get_put] at hy
    split at hy
    · rename_i e; subst e
      exact .inl ⟨b, p, _, hb', hg, rfl⟩
    · exact .inl ⟨b', p, y, hb', hy, rfl⟩
  · exact fun _ _ hb' => .inl hb'

end Go.Ai

namespace Go.Ai
open Go

variable {S : Stat} {ρ : Rho} {h : H} {w : World}

def H.eqv (h h' : H) : Prop := (∀ b, h'.get b = h.get b) ∧ h'.nx = h.nx
theorem HR.congr {h' : H} (r : HR S ρ h w) (e : h.eqv h') : HR S ρ h' w where
  bound b pl hb := by rw [e.2]; exact r.bound b pl hb
  obj b pl x hb hx := r.obj b pl x hb (by rw [← e.1]; exact hx)
  inj b b' pl pl' x x' h1 h2 h3 h4 h5 h6 := r.inj b b' pl pl' x x' h1 h2 (by rw [← e.1]; exact h3) (by rw [← e.1]; exact h4) h5 h6
  live b x hx := by rw [e.2]; exact r.live b x (by rw [← e.1]; exact hx)
theorem Ext.congr {ρ' : Rho} {h0 h' : H} {w0 : World} (r : Ext ρ h0 w0 ρ' h w) (e : h.eqv h') : Ext ρ h0 w0 ρ' h' w where
  le := r.le
  nx := by rw [e.2]; exact r.nx
  size := r.size
  os := r.os
  out := r.out
  frame := r.frame
  img cb := fun ⟨b, pl, x, h1, h2, h3, h4⟩ => r.img cb ⟨b, pl, x, h1, by rw [← e.1]; exact h2, h3, h4⟩
  liv cb := fun ⟨b, pl, x, h1, h2, h4⟩ => r.liv cb ⟨b, pl, x, h1, by rw [← e.1]; exact h2, h4⟩
  new := r.new

theorem set_overlay (cs : List AVal) (o : Nat) (x : AVal) (xs : List AVal) (hlen : o + (xs.length + 1) ≤ cs.length) :
    ((cs.set o x).take (o + 1) ++ xs ++ (cs.set o x).drop (o + 1 + xs.length)) = cs.take o ++ (x :: xs) ++ cs.drop (o + (xs.length + 1)) := by
  have h1 : (cs.set o x).take (o + 1) = cs.take o ++ [x] := by
    apply List.ext_getElem?
    intro i
    simp only [List.getElem?_take, List.getElem?_set, List.getElem?_append, List.length_take]
    by_cases h : i < o
    · rw [if_pos (by omega), if_neg (by omega), if_pos (by omega), if_pos h]
    · by_cases h2 : i = o
      · subst h2
        rw [if_pos (by omega), if_pos rfl, if_pos (by omega), if_neg (by omega)]
        rw [show i - min i cs.length = 0 by omega]; rfl
      · rw [if_neg (by omega), if_neg (by omega)]
        have : i - min o cs.length ≠ 0 := by omega
        obtain ⟨j, hj⟩ : ∃ j, i - min o cs.length = j + 1 := ⟨i - min o cs.length - 1, by omega⟩
        rw [hj]; rfl
  have h2 : (cs.set o x).drop (o + 1 + xs.length) = cs.drop (o + (xs.length + 1)) := by
    rw [show o + 1 + xs.length = o + (xs.length + 1) by omega]
    apply List.ext_getElem?
    intro i
    simp only [List.getElem?_drop, List.getElem?_set]
    rw [if_neg (by omega)]
  rw [h1, h2]; simp

theorem HR.storeL (P : Program) {b : Nat} {pl : Place} {el es : Nat} {kd : BKind} {fz : Bool} (hb : ρ b = some pl) (hkd : kd ≠ .ro) (o0 : Nat) :
    ∀ (xs : List AVal) (us : List Value) (h : H) (w : World) (cs : List AVal) (i : Nat), HR S ρ h w → h.get b = some (.cells cs el es kd fz) →
      o0 + i + xs.length ≤ cs.length → VRels ρ xs us → (∀ v ∈ us, v.oneCell' = true) →
      ∃ w', (storeCells ⟨pl.blk, pl.sh + o0, none⟩ us i).run P w = .ok () w' ∧
        HR S ρ (h.put b (.cells (cs.take (o0 + i) ++ xs ++ cs.drop (o0 + i + xs.length)) el es kd fz)) w' ∧
        Ext ρ h w ρ (h.put b (.cells (cs.take (o0 + i) ++ xs ++ cs.drop (o0 + i + xs.length)) el es kd fz)) w' := by
  intro xs
  induction xs with
  | nil =>
    intro us h w cs i r hg hlen hv h1
    cases hv
    refine ⟨w, by simp [storeCells], ?_⟩
    have e : cs.take (o0 + i) ++ [] ++ cs.drop (o0 + i + ([] : List AVal).length) = cs := by simp
    rw [e]
    have eq : h.eqv (h.put b (.cells cs el es kd fz)) := by
      refine ⟨fun c => ?_, rfl⟩
      rw [get_put]
      split
      · rename_i e; subst e; exact hg.symm
      · rfl
    exact ⟨r.congr eq, (Ext.refl ρ h w).congr eq⟩
  | cons x xs ih =>
    intro us h w cs i r hg hlen hv h1
    cases hv with
    | cons _ _ v vs hx hxs =>
      have ho : o0 + i < cs.length := by simp at hlen; omega
      obtain ⟨⟨u, hu⟩, hf, r1, e1⟩ := r.set hb hg hkd ho hx (h1 v (by simp))
      have hg1 : (h.put b (.cells (cs.set (o0 + i) x) el es kd fz)).get b = some (.cells (cs.set (o0 + i) x) el es kd fz) := by rw [get_put, if_pos rfl]
      obtain ⟨w2, hrun, r2, e2⟩ := ih vs _ _ (cs.set (o0 + i) x) (i + 1) r1 hg1 (by simp at hlen ⊢; omega) hxs (fun v hv => h1 v (by simp [hv]))
      refine ⟨w2, ?_, ?_⟩
      · simp only [storeCells, Sem.run_bind, add_plain]
        rw [run_store _ _ _ _ _ (h1 v (by simp))]
        rw [show pl.sh + o0 + i = pl.sh + (o0 + i) by omega, hu]
        simp only [hf]
        exact hrun
      · have hs := set_overlay cs (o0 + i) x xs (by simpa using hlen)
        have eq : ((h.put b (.cells (cs.set (o0 + i) x) el es kd fz)).put b (.cells ((cs.set (o0 + i) x).take (o0 + (i + 1)) ++ xs ++ (cs.set (o0 + i) x).drop (o0 + (i + 1) + xs.length)) el es kd fz)).eqv
            (h.put b (.cells (cs.take (o0 + i) ++ (x :: xs) ++ cs.drop (o0 + i + (x :: xs).length)) el es kd fz)) := by
          refine ⟨fun c => ?_, rfl⟩
          simp only [get_put]
          rw [show o0 + (i + 1) = o0 + i + 1 by omega, hs]
          by_cases e : b = c <;> simp [e]
        exact ⟨r2.congr eq, (e1.trans e2).congr eq⟩

theorem HR.store (P : Program) (r : HR S ρ h w) {b o : Nat} {pl : Place} {xs : List AVal} {us : List Value} {h' : H} (hb : ρ b = some pl) (hs : storeAt h b o xs = some h')
    (hv : VRels ρ xs us) (h1 : ∀ v ∈ us, v.oneCell' = true) :
    ∃ w', (storeCells ⟨pl.blk, pl.sh + o, none⟩ us).run P w = .ok () w' ∧ HR S ρ h' w' ∧ Ext ρ h w ρ h' w' := by
  unfold storeAt at hs
  split at hs
  · rename_i cs el es kd fz hg
    have key : kd ≠ .ro → ∀ cs', overAt o xs cs = some cs' → h' = h.put b (.cells cs' el es kd fz) → ∃ w', (storeCells ⟨pl.blk, pl.sh + o, none⟩ us).run P w = .ok () w' ∧ HR S ρ h' w' ∧ Ext ρ h w ρ h' w' := by
      intro hkd cs' ho he
      rw [overAt_eq] at ho
      split at ho
      · rename_i hlen
        obtain rfl := Option.some.inj ho
        subst he
        have := HR.storeL (S := S) P hb hkd o xs us h w cs 0 r hg (by omega) hv h1
        simpa using this
      · cases ho
    cases kd with
    | ro => cases hs
    | own =>
      simp only at hs
      split at hs
      · rename_i cs' ho; exact key (by simp) cs' ho (Option.some.inj hs).symm
      · cases hs
    | grow =>
      simp only at hs
      split at hs
      · rename_i cs' ho; exact key (by simp) cs' ho (Option.some.inj hs).symm
      · cases hs
  · cases hs

theorem HR.kill (r : HR S ρ h w) (b : Nat) : HR S ρ (h.kill b) w ∧ Ext ρ h w ρ (h.kill b) w := by
  refine ⟨⟨?_, ?_, ?_, ?_⟩, ⟨Rho.le_refl ρ, by rw [nx_kill]; omega, by omega, rfl, rfl, fun _ _ _ => rfl, ?_, ?_, ?_⟩⟩
  · intro b' p hb'; rw [nx_kill]; exact r.bound _ _ hb'
  · intro b' p x hb' hx
    rw [get_kill] at hx
    split at hx
    · cases hx
    · exact r.obj _ _ _ hb' hx
  · intro b1 b2 p1 p2 x1 x2 h1 h2 h3 h4 h5 h6
    rw [get_kill] at h3 h4
    split at h3
    · cases h3
    split at h4
    · cases h4
    exact r.inj _ _ _ _ _ _ h1 h2 h3 h4 h5 h6
  · intro b' x hx
    rw [get_kill] at hx
    rw [nx_kill]
    split at hx
    · cases hx
    · exact r.live _ _ hx
  · rintro cb ⟨b', p, x, h1, h2, h3, h4⟩
    rw [get_kill] at h2
    split at h2
    · cases h2
    · exact .inl ⟨b', p, x, h1, h2, h3, h4⟩
  · rintro cb ⟨b', p, x, h1, h2, h4⟩
    rw [get_kill] at h2
    split at h2
    · cases h2
    · exact .inl ⟨b', p, x, h1, h2, h4⟩
  · exact fun _ _ h => .inl h

theorem HR.move (r : HR S ρ h w) {b o : Nat} {pl : Place} {cs : List AVal} {el es : Nat} {fz : Bool} (hb : ρ b = some pl) (hg : h.get b = some (.cells cs el es .grow fz)) (ho : o ≤ cs.length) (n : Nat) (el' : Nat)
    (hel : el' = el) :
    let pl' : Place := ⟨pl.blk, pl.sh + o, pl.sz, pl.es⟩
    HR S (ρ.with h.nx pl') ((h.kill b).new (.cells ((cs.drop o).take n) el' es .grow fz)) w ∧ Ext ρ h w (ρ.with h.nx pl') ((h.kill b).new (.cells ((cs.drop o).take n) el' es .grow fz)) w := by
  intro pl'
  subst hel
  obtain ⟨c, lo, hi, hw, hsz, hle, hcs, hk⟩ := r.cells hb hg
  have hbn : b < h.nx := (r.bound _ _ hb).1
  have hlew := r.le_with pl'
  have hnx : (h.kill b).nx = h.nx := rfl
  have hget : ∀ c', ((h.kill b).new (.cells ((cs.drop o).take n) el' es .grow fz)).get c' = if h.nx = c' then some (.cells ((cs.drop o).take n) el' es .grow fz) else if b = c' then none else h.get c' := by
    intro c'; rw [get_new, hnx]; split
    · rfl
    · rw [get_kill]
  have hro : ¬ isRO (.cells cs el' es .grow fz) := by simp [isRO]
  refine ⟨⟨?_, ?_, ?_, ?_⟩, ⟨hlew, by rw [nx_new, hnx]; omega, by omega, rfl, rfl, fun _ _ _ => rfl, ?_, ?_, ?_⟩⟩
  · intro b' p hb'
    rw [nx_new, hnx]
    unfold Rho.with at hb'
    split at hb'
    · obtain rfl := Option.some.inj hb'
      exact ⟨by omega, (r.bound _ _ hb).2⟩
    · have := r.bound _ _ hb'; exact ⟨by omega, this.2⟩
  · intro b' p x hb' hx
    rw [hget] at hx
    unfold Rho.with at hb'
    split at hb'
    · rename_i e; subst e
      obtain rfl := Option.some.inj hb'
      rw [if_pos rfl] at hx
      obtain rfl := Option.some.inj hx
      refine ⟨_, hw, c, lo, hi, rfl, hsz, ?_, ?_, hk⟩
      · show pl.sh + o + ((cs.drop o).take n).length ≤ pl.sz
        rw [List.length_take, List.length_drop]; omega
      · intro i a hi'
        rw [List.getElem?_take] at hi'
        split at hi'
        case isFalse => cases hi'
        rw [List.getElem?_drop] at hi'
        obtain ⟨v, hv, h1, h2⟩ := hcs _ _ hi'
        exact ⟨v, by rw [show pl'.sh + i = pl.sh + (o + i) by simp [pl']; omega]; exact hv, h1, h2.mono hlew⟩
    · rename_i e
      rw [if_neg (fun e' => e e'.symm)] at hx
      split at hx
      · cases hx
      · obtain ⟨o', ho', hr⟩ := r.obj _ _ _ hb' hx
        exact ⟨o', ho', hr.mono hlew⟩
  · intro b1 b2 p1 p2 x1 x2 h1 h2 h3 h4 h5 h6
    rw [hget] at h3 h4
    unfold Rho.with at h1 h2
    split at h1 <;> split at h2
    · rename_i e1 e2; exact absurd (e1.trans e2.symm) h5
    · rename_i e1 e2
      obtain rfl := Option.some.inj h1
      rw [if_neg (fun e' => e2 e'.symm)] at h4
      split at h4
      · cases h4
      · rename_i e3
        exact absurd (r.inj b b2 pl p2 _ _ hb h2 hg h4 e3 h6).1 hro
    · rename_i e1 e2
      obtain rfl := Option.some.inj h2
      rw [if_neg (fun e' => e1 e'.symm)] at h3
      split at h3
      · cases h3
      · rename_i e3
        exact absurd (r.inj b b1 pl p1 _ _ hb h1 hg h3 e3 h6.symm).1 hro
    · rename_i e1 e2
      rw [if_neg (fun e' => e1 e'.symm)] at h3
      rw [if_neg (fun e' => e2 e'.symm)] at h4
      split at h3
      · cases h3
      split at h4
      · cases h4
      exact r.inj _ _ _ _ _ _ h1 h2 h3 h4 h5 h6
  · intro b' x hx
    rw [hget] at hx
    rw [nx_new, hnx]
    split at hx
    · omega
    split at hx
    · cases hx
    · have := r.live _ _ hx; omega
  · rintro cb ⟨b', p, x, h1, h2, h3, h4⟩
    rw [hget] at h2
    unfold Rho.with at h1
    split at h1
    · obtain rfl := Option.some.inj h1
      exact .inl ⟨b, pl, _, hb, hg, hro, h4⟩
    · rename_i e
      rw [if_neg (fun e' => e e'.symm)] at h2
      split at h2
      · cases h2
      · exact .inl ⟨b', p, x, h1, h2, h3, h4⟩
  · rintro cb ⟨b', p, x, h1, h2, h4⟩
    rw [hget] at h2
    unfold Rho.with at h1
    split at h1
    · obtain rfl := Option.some.inj h1
      exact .inl ⟨b, pl, _, hb, hg, h4⟩
    · rename_i e
      rw [if_neg (fun e' => e e'.symm)] at h2
      split at h2
      · cases h2
      · exact .inl ⟨b', p, x, h1, h2, h4⟩
  · intro b p hb
    unfold Rho.with at hb
    split at hb
    · right; omega
    · exact .inl hb


theorem HR.push (r : HR S ρ h w) {b : Nat} {pl : Place} {cs : List AVal} {el es : Nat} {fz : Bool} {a : AVal} {v : Value} (hb : ρ b = some pl)
    (hg : h.get b = some (.cells cs el es .grow fz)) (ho : pl.sh + cs.length < pl.sz) (hv : VRel ρ a v) (h1 : v.oneCell' = true) :
    (∃ u, w.cell? ⟨pl.blk, pl.sh + cs.length, none⟩ = some u) ∧ w.frozen? ⟨pl.blk, pl.sh + cs.length, none⟩ = false ∧
      HR S ρ (h.put b (.cells (cs ++ [a]) el es .grow fz)) (w.setCell ⟨pl.blk, pl.sh + cs.length, none⟩ v) ∧
      Ext ρ h w ρ (h.put b (.cells (cs ++ [a]) el es .grow fz)) (w.setCell ⟨pl.blk, pl.sh + cs.length, none⟩ v) := by
  obtain ⟨c, lo, hi, hw, hsz, hle, hcs, hk⟩ := r.cells hb hg
  have hfz : FzR pl.sz fz lo hi := hk.2
  have hnro : ¬ isRO (.cells cs el es .grow fz) := by simp [isRO]
  have hheap : ∀ i, (w.setCell ⟨pl.blk, pl.sh + cs.length, none⟩ v).heap[i]? = if i = pl.blk then some (.cells (c.setIfInBounds (pl.sh + cs.length) v) el (lo, hi)) else w.heap[i]? := by
    intro i
    simp only [World.setCell, Array.getElem?_modify]
    by_cases hi' : i = pl.blk
    · subst hi'; simp [hw]
    · rw [if_neg hi', if_neg (fun e => hi' e.symm)]
  have hsize : (w.setCell ⟨pl.blk, pl.sh + cs.length, none⟩ v).heap.size = w.heap.size := by simp [World.setCell]
  refine ⟨?_, ?_, ⟨?_, ?_, ?_, ?_⟩, ⟨Rho.le_refl ρ, by rw [nx_put]; omega, by omega, rfl, rfl, ?_, ?_, ?_, ?_⟩⟩
  · rw [cell_of_heap hw]
    exact ⟨c[pl.sh + cs.length]'(by omega), Array.getElem?_eq_getElem (by omega)⟩
  · rw [frozen_of_heap hw]
    have := hfz.1 (pl.sh + cs.length) (by omega)
    simpa using this
  · intro b' p hb'
    rw [nx_put, hsize]; exact r.bound _ _ hb'
  · intro b' p y hb' hy
    rw [get_put] at hy
    by_cases e : b = b'
    · subst e
      rw [if_pos rfl] at hy
      obtain rfl := Option.some.inj hy
      obtain rfl : pl = p := Option.some.inj (hb.symm.trans hb')
      refine ⟨_, by rw [hheap, if_pos rfl], c.setIfInBounds (pl.sh + cs.length) v, lo, hi, rfl, by simpa using hsz, by simp; omega, ?_, hk⟩
      intro i x hx
      rw [List.getElem?_append] at hx
      split at hx
      · rename_i hlt
        obtain ⟨u, hu, hu1, hu2⟩ := hcs i x hx
        exact ⟨u, by rw [Array.getElem?_setIfInBounds, if_neg (by omega)]; exact hu, hu1, hu2⟩
      · rename_i hlt
        obtain rfl : i = cs.length := by
          have := (List.getElem?_eq_some_iff.1 hx).1
          simp at this; omega
        simp at hx; subst hx
        exact ⟨v, by rw [Array.getElem?_setIfInBounds]; simp; omega, h1, hv⟩
    · rw [if_neg e] at hy
      obtain ⟨o', ho', hr⟩ := r.obj _ _ _ hb' hy
      refine ⟨o', ?_, hr⟩
      rw [hheap, if_neg]
      · exact ho'
      · intro eb
        exact hnro (r.inj b b' pl p _ _ hb hb' hg hy e eb.symm).1
  · intro b1 b2 p1 p2 y1 y2 hb1 hb2 hy1 hy2 hne he
    rw [get_put] at hy1 hy2
    by_cases e1 : b = b1
    · subst e1
      rw [if_neg hne] at hy2
      obtain rfl : pl = p1 := Option.some.inj (hb.symm.trans hb1)
      exact absurd (r.inj b b2 pl p2 _ _ hb hb2 hg hy2 hne he).1 hnro
    · rw [if_neg e1] at hy1
      by_cases e2 : b = b2
      · subst e2
        obtain rfl : pl = p2 := Option.some.inj (hb.symm.trans hb2)
        exact absurd (r.inj b1 b p1 pl _ _ hb1 hb hy1 hg hne he).2 hnro
      · rw [if_neg e2] at hy2
        exact r.inj b1 b2 p1 p2 y1 y2 hb1 hb2 hy1 hy2 hne he
  · intro b' y hy
    rw [get_put] at hy
    rw [nx_put]
    split at hy
    · rename_i e; subst e; exact r.live _ _ hg
    · exact r.live _ _ hy
  · intro cb hlt hn
    rw [hheap, if_neg]
    rintro rfl
    exact hn ⟨b, pl, _, hb, hg, hnro, rfl⟩
  · rintro cb ⟨b', p, y, hb', hy, hro, rfl⟩
    rw [get_put] at hy
    split at hy
    · rename_i e; subst e
      exact .inl ⟨b, p, _, hb', hg, hnro, rfl⟩
    · exact .inl ⟨b', p, y, hb', hy, hro, rfl⟩
  · rintro cb ⟨b', p, y, hb', hy, rfl⟩
    rw [get_put] at hy
    split at hy
    · rename_i e; subst e
      exact .inl ⟨b, p, _, hb', hg, rfl⟩
    · exact .inl ⟨b', p, y, hb', hy, rfl⟩
  · exact fun _ _ hb' => .inl hb'

theorem HR.pushL (P : Program) {b : Nat} {pl : Place} {el es : Nat} {fz : Bool} (hb : ρ b = some pl) (k0 : Nat) :
    ∀ (xs : List AVal) (us : List Value) (h : H) (w : World) (cs : List AVal) (i : Nat), HR S ρ h w → h.get b = some (.cells cs el es .grow fz) → cs.length = k0 + i →
      pl.sh + cs.length + xs.length ≤ pl.sz → VRels ρ xs us → (∀ v ∈ us, v.oneCell' = true) →
      ∃ w', (storeCells ⟨pl.blk, pl.sh + k0, none⟩ us i).run P w = .ok () w' ∧
        HR S ρ (h.put b (.cells (cs ++ xs) el es .grow fz)) w' ∧ Ext ρ h w ρ (h.put b (.cells (cs ++ xs) el es .grow fz)) w' := by
  intro xs
  induction xs with
  | nil =>
    intro us h w cs i r hg hk hlen hv h1
    cases hv
    refine ⟨w, by simp [storeCells], ?_⟩
    rw [List.append_nil]
    have eq : h.eqv (h.put b (.cells cs el es .grow fz)) := by
      refine ⟨fun c => ?_, rfl⟩
      rw [get_put]
      split
      · rename_i e; subst e; exact hg.symm
      · rfl
    exact ⟨r.congr eq, (Ext.refl ρ h w).congr eq⟩
  | cons x xs ih =>
    intro us h w cs i r hg hk hlen hv h1
    cases hv with
    | cons _ _ v vs hx hxs =>
      simp at hlen
      obtain ⟨⟨u, hu⟩, hf, r1, e1⟩ := r.push hb hg (by omega) hx (h1 v (by simp))
      have hg1 : (h.put b (.cells (cs ++ [x]) el es .grow fz)).get b = some (.cells (cs ++ [x]) el es .grow fz) := by rw [get_put, if_pos rfl]
      obtain ⟨w2, hrun, r2, e2⟩ := ih vs _ _ (cs ++ [x]) (i + 1) r1 hg1 (by simp; omega) (by simp; omega) hxs (fun v hv => h1 v (by simp [hv]))
      refine ⟨w2, ?_, ?_⟩
      · simp only [storeCells, Sem.run_bind, add_plain]
        rw [run_store _ _ _ _ _ (h1 v (by simp))]
        rw [show pl.sh + k0 + i = pl.sh + cs.length by omega, hu]
        simp only [hf]
        exact hrun
      · have eq : ((h.put b (.cells (cs ++ [x]) el es .grow fz)).put b (.cells (cs ++ [x] ++ xs) el es .grow fz)).eqv (h.put b (.cells (cs ++ (x :: xs)) el es .grow fz)) := by
          refine ⟨fun c => ?_, rfl⟩
          simp only [get_put]
          by_cases e : b = c <;> simp [e]
        exact ⟨r2.congr eq, (e1.trans e2).congr eq⟩

end Go.Ai

namespace Go.Ai
open Go

variable {S : Stat} {ρ : Rho} {h : H} {w : World} {tm : TM} {e : Env} {ev : Operand → Value}

theorem run_under {P : Program} {t : TypeId} {d : TypeDesc} (w : World) (h : P.underlying t = some d) : (underlying t).run P w = .ok d w := by simp [underlying, h]
theorem run_info {P : Program} {t : TypeId} {i : TypeInfo} (w : World) (h : P.info? t = some i) : (typeInfo t).run P w = .ok i w := by simp [typeInfo, h]
theorem run_size {P : Program} {t : TypeId} {n : Nat} (w : World) (h : szOf P t = some n) : (sizeOf t).run P w = .ok n w := by
  unfold szOf at h
  cases hi : P.info? t with
  | none => simp [hi] at h
  | some i => simp [hi] at h; simp [sizeOf, run_info w hi, h]
theorem cellsOf_sz {P : Program} {t : TypeId} {n : Nat} (h : szOf P t = some n) : P.cellsOf t = n := by
  unfold szOf at h; unfold Program.cellsOf; rw [h]; rfl
theorem run_isAgg {P : Program} {t : TypeId} {b : Bool} (w : World) (h : aggO P t = some b) : (isAgg t).run P w = .ok b w := by
  unfold aggO at h
  cases hd : P.underlying t with
  | none => simp [hd] at h
  | some d =>
    simp [hd] at h
    unfold isAgg
    simp only [Sem.run_bind, run_under w hd, Result.andThen_ok]
    cases d <;> simp_all [aggD]

def OpdR (ρ : Rho) (tm : TM) (e : Env) (ev : Operand → Value) (x : Opd) (X : Operand) : Prop := ∀ a, x tm e = some a → VRel ρ a (ev X)
def VOk (S : Stat) (ρ : Rho) (w : World) (ev : Operand → Value) (o : Oper) (a : AVal) : Prop := ∃ v, (execOp ev o).run S.P w = .ok (.value v) w ∧ VRel ρ a v
theorem VOk.of {o : Oper} {a : AVal} {s : Sem Value} {v : Value} (he : execOp ev o = (do pure (.value (← s)))) (hr : s.run S.P w = .ok v w) (hv : VRel ρ a v) : VOk S ρ w ev o a :=
  ⟨v, by rw [he]; simp [hr], hv⟩

theorem mov_ok {o : Oper} {x : Opd} {X : Operand} {a : AVal} (ho : o.op = .move X ∨ o.op = .assign X) (hx : OpdR ρ tm e ev x X) (hf : oMov x tm e h = some a) : VOk S ρ w ev o a :=
  ⟨ev X, by rcases ho with ho | ho <;> simp [execOp, ho], hx a hf⟩

theorem pick_ok {o : Oper} {c x y : Opd} {C X Y : Operand} {a : AVal} (ho : o.op = .pick C X Y) (hc : OpdR ρ tm e ev c C) (hx : OpdR ρ tm e ev x X) (hy : OpdR ρ tm e ev y Y)
    (hf : oPick c x y tm e h = some a) : VOk S ρ w ev o a := by
  unfold oPick at hf
  split at hf
  · rename_i hb
    have := hc _ hb
    cases hv : ev C <;> rw [hv] at this <;> cases this
    exact ⟨ev X, by simp [execOp, ho, hv, asBool], hx a hf⟩
  · rename_i hb
    have := hc _ hb
    cases hv : ev C <;> rw [hv] at this <;> cases this
    exact ⟨ev Y, by simp [execOp, ho, hv, asBool], hy a hf⟩
  · cases hf

theorem VRel.ptr_inv {b i : Nat} {v : Value} (hr : VRel ρ (.ptr b i) v) : ∃ pl, ρ b = some pl ∧ v = .pointer (some ⟨pl.blk, pl.sh + i, none⟩) := by
  cases hr with | ptr _ _ pl hb => exact ⟨pl, hb, rfl⟩

theorem load_ok {o : Oper} {x : Opd} {X : Operand} {t : TypeId} {a : AVal} (r : HR S ρ h w) (ho : o.op = .load t X) (ht : aggO S.P t = some false) (hx : OpdR ρ tm e ev x X)
    (hf : oLoad x tm e h = some a) : VOk S ρ w ev o a := by
  unfold oLoad at hf
  split at hf
  · rename_i b i hb
    obtain ⟨pl, hp, hv⟩ := (hx _ hb).ptr_inv
    obtain ⟨v, hc, _, hr⟩ := r.cell hp hf
    refine VOk.of (s := Instr.loadAt t (ev X)) (v := v) (by simp [execOp, ho]) ?_ hr
    simp [Instr.loadAt, hv, Instr.sureAddr, loadVar, run_isAgg w ht, hc]
  · cases hf

theorem loadn_ok {o : Oper} {x : Opd} {X : Operand} {t : TypeId} {n : Nat} {a : AVal} (r : HR S ρ h w) (ho : o.op = .load t X) (ht : aggO S.P t = some true) (hn : szOf S.P t = some n)
    (hx : OpdR ρ tm e ev x X) (hf : oLoadN n x tm e h = some a) : VOk S ρ w ev o a := by
  unfold oLoadN at hf
  split at hf
  · rename_i b i hb
    obtain ⟨pl, hp, hv⟩ := (hx _ hb).ptr_inv
    split at hf
    · rename_i cs hc
      obtain rfl := Option.some.inj hf
      obtain ⟨hl, vs, hvs, hcf, h1⟩ := r.cellsR hp hc
      refine VOk.of (s := Instr.loadAt t (ev X)) (v := .agg vs.toArray) (by simp [execOp, ho]) ?_ (.agg _ _ hvs h1)
      have := run_loadCells S.P w _ _ vs hcf n (by rw [← hvs.length]; exact hl)
      simp [Instr.loadAt, hv, Instr.sureAddr, loadVar, run_isAgg w ht, run_size w hn, this]
    · cases hf
  · cases hf

theorem VRel.func_inv {fn : Fn} {a c : List AVal} {v : Value} (hr : VRel ρ (.func fn a c) v) : ∃ fn' a' c', v = .func fn' a'.toArray c'.toArray ∧ FnR ρ fn fn' ∧ VRels ρ a a' ∧ VRels ρ c c' := by
  cases hr with | func _ fn' _ _ a' c' h1 h2 h3 => exact ⟨fn', a', c', rfl, h1, h2, h3⟩
theorem VRel.iface_inv {t : Nat} {a : AVal} {v : Value} (hr : VRel ρ (.iface t a) v) : ∃ v', v = .iface t v' ∧ VRel ρ a v' := by
  cases hr with | iface _ _ v' h1 => exact ⟨v', rfl, h1⟩

theorem nilc_ok {o : Oper} {x : Opd} {X : Operand} {a : AVal} (ho : o.op = .nilCheck X) (hx : OpdR ρ tm e ev x X) (hf : oNilc x tm e h = some a) : VOk S ρ w ev o a := by
  unfold oNilc at hf
  split at hf
  · rename_i b i hb
    obtain rfl := Option.some.inj hf
    have hr := hx _ hb
    obtain ⟨pl, hp, hv⟩ := hr.ptr_inv
    exact ⟨ev X, by simp [execOp, ho, hv], hr⟩
  · rename_i f l c hb
    obtain rfl := Option.some.inj hf
    obtain ⟨fn', a', c', hv, hfn, h1, h2⟩ := (hx _ hb).func_inv
    cases hfn
    exact ⟨_, by simp [execOp, ho, hv], .func _ _ _ _ _ _ (.func f) h1 h2⟩
  · rename_i f l c hb
    obtain rfl := Option.some.inj hf
    obtain ⟨fn', a', c', hv, hfn, h1, h2⟩ := (hx _ hb).func_inv
    cases hfn with
    | yield _ pl hp => exact ⟨_, by simp [execOp, ho, hv], .func _ _ _ _ _ _ (.yield _ pl hp) h1 h2⟩
  · rename_i t v hb
    obtain rfl := Option.some.inj hf
    obtain ⟨v', hv, hr'⟩ := (hx _ hb).iface_inv
    exact ⟨_, by simp [execOp, ho, hv], .iface _ _ _ hr'⟩
  · cases hf

theorem faddr_ok {o : Oper} {x : Opd} {X : Operand} {s : TypeId} {i : Nat} {fs : Array Field} {f : Field} {n : Nat} {a : AVal} (ho : o.op = .fieldAddr s X i)
    (hs : S.P.underlying s = some (.struct fs)) (hf' : fs[i]? = some f) (hn : szOf S.P f.type = some n) (h0 : n ≠ 0) (hx : OpdR ρ tm e ev x X) (hf : oFaddr f.offset x tm e h = some a) : VOk S ρ w ev o a := by
  unfold oFaddr at hf
  split at hf
  · rename_i b j hb
    obtain rfl := Option.some.inj hf
    obtain ⟨pl, hp, hv⟩ := (hx _ hb).ptr_inv
    refine VOk.of (s := Instr.fieldAt s (ev X) i) (v := .pointer (some ⟨pl.blk, pl.sh + (j + f.offset), none⟩)) (by simp [execOp, ho]) ?_ (.ptr _ _ pl hp)
    simp [Instr.fieldAt, run_under w hs, hf', hv, Instr.sureAddr, fieldPlace, run_size w hn, h0, add_plain, Nat.add_assoc]
  · cases hf

theorem run_part_one {P : Program} {t : TypeId} (w : World) (cs : List Value) (off : Nat) (v : Value) (ht : aggO P t = some false) (hc : cs[off]? = some v) : (Go.part t cs.toArray off).run P w = .ok v w := by
  simp [Go.part, run_isAgg w ht, hc]
theorem run_part_agg {P : Program} {t : TypeId} {n : Nat} (w : World) (cs : List Value) (off : Nat) (ht : aggO P t = some true) (hn : szOf P t = some n) :
    (Go.part t cs.toArray off).run P w = .ok (.agg ((cs.drop off).take n).toArray) w := by
  simp [Go.part, run_isAgg w ht, run_size w hn, List.extract_eq_drop_take]

theorem field_ok {o : Oper} {x : Opd} {X : Operand} {t : TypeId} {i : Nat} {fs : Array Field} {f : Field} {b : Bool} {n : Nat} {a : AVal} (ho : o.op = .field t X i)
    (hs : S.P.underlying t = some (.struct fs)) (hf' : fs[i]? = some f) (hb : aggO S.P f.type = some b) (hn : szOf S.P f.type = some n) (hx : OpdR ρ tm e ev x X)
    (hf : oField f.offset (if b then some n else none) x tm e h = some a) : VOk S ρ w ev o a := by
  unfold oField at hf
  split at hf
  · rename_i l hl
    have hr := hx _ hl
    cases hv : ev X <;> rw [hv] at hr <;> cases hr
    rename_i l' h1 hr
    cases b with
    | false =>
      simp only [Bool.false_eq_true, if_false] at hf
      rw [nth_eq] at hf
      obtain ⟨v, hv', hr'⟩ := hr.get _ _ hf
      refine VOk.of (s := Instr.field t (ev X) i) (v := v) (by simp [execOp, ho]) ?_ hr'
      simp [Instr.field, run_under w hs, hf', hv, asAgg, run_part_one w l' f.offset v hb hv']
    | true =>
      simp only [if_true] at hf
      split at hf
      · rename_i r hr'
        obtain rfl := Option.some.inj hf
        rw [part_eq] at hr'
        split at hr'
        · obtain rfl := Option.some.inj hr'
          refine VOk.of (s := Instr.field t (ev X) i) (v := .agg ((l'.drop f.offset).take n).toArray) (by simp [execOp, ho]) ?_ (.agg _ _ ((hr.drop _).take _) fun v hv => h1 v (List.mem_of_mem_drop (List.mem_of_mem_take hv)))
          simp only [Instr.field, Sem.run_bind, run_under w hs, Result.andThen_ok, hf', hv, asAgg, Sem.run_pure]
          exact run_part_agg w l' f.offset hb hn
        · cases hr'
      · cases hf
  · cases hf

theorem VRel.int_inv {k : IntKind} {n : Int} {v : Value} (hr : VRel ρ (.int k n) v) : v = .int k n := by cases hr; rfl
theorem VRel.bool_inv {b : Bool} {v : Value} (hr : VRel ρ (.bool b) v) : v = .bool b := by cases hr; rfl
theorem VRel.str_inv {s : List Nat} {v : Value} (hr : VRel ρ (.str s) v) : ∃ b, v = .string b ∧ cstr b = s := by cases hr; exact ⟨_, rfl, rfl⟩

theorem iaddr_ok {o : Oper} {x i : Opd} {X I : Operand} {t el : TypeId} {es : Nat} {a : AVal} (ho : o.op = .indexAddr t X I) (ht : S.P.underlying t = some (.slice el)) (hes : szOf S.P el = some es)
    (hx : OpdR ρ tm e ev x X) (hi : OpdR ρ tm e ev i I) (hf : oIaddr es x i tm e h = some a) : VOk S ρ w ev o a := by
  unfold oIaddr at hf
  split at hf
  · rename_i b j n c hb
    split at hf
    · rename_i k q hq
      split at hf
      · rename_i hlt
        obtain rfl := Option.some.inj hf
        have hlt' : q < n := by simpa [Nat.blt_eq] using hlt
        have hI := (hi _ hq).int_inv
        have hX := hx _ hb
        have key : ∃ pl c', ρ b = some pl ∧ ev X = .slice (some ⟨pl.blk, pl.sh + j, none⟩) n c' := by
          generalize ev X = v at hX
          cases hX with
          | slice _ _ _ _ pl hp => exact ⟨pl, _, hp, rfl⟩
          | sliceG _ _ _ c' pl hp _ _ => exact ⟨pl, c', hp, rfl⟩
        obtain ⟨pl, c', hp, hv⟩ := key
        refine VOk.of (s := Instr.indexAt t (ev X) (ev I)) (v := .pointer (some ⟨pl.blk, pl.sh + (j + q * es), none⟩)) (by simp [execOp, ho]) ?_ (.ptr _ _ pl hp)
        rw [hI, hv]
        simp [Instr.indexAt, asIntOf, run_under w ht, hlt', run_size w hes, add_plain, Nat.add_assoc]
      · cases hf
    · cases hf
  · cases hf

theorem iaddra_ok {o : Oper} {x i : Opd} {X I : Operand} {t el : TypeId} {es n : Nat} {a : AVal} (ho : o.op = .indexAddr t X I) (ht : S.P.underlying t = some (.array n el)) (hes : szOf S.P el = some es)
    (hx : OpdR ρ tm e ev x X) (hi : OpdR ρ tm e ev i I) (hf : oIaddra n es x i tm e h = some a) : VOk S ρ w ev o a := by
  unfold oIaddra at hf
  split at hf
  · rename_i b j hb
    split at hf
    · rename_i k q hq
      split at hf
      · rename_i hlt
        obtain rfl := Option.some.inj hf
        have hlt' : q < n := by simpa [Nat.blt_eq] using hlt
        have hI := (hi _ hq).int_inv
        obtain ⟨pl, hp, hv⟩ := (hx _ hb).ptr_inv
        refine VOk.of (s := Instr.indexAt t (ev X) (ev I)) (v := .pointer (some ⟨pl.blk, pl.sh + (j + q * es), none⟩)) (by simp [execOp, ho]) ?_ (.ptr _ _ pl hp)
        rw [hI, hv]
        simp [Instr.indexAt, asIntOf, run_under w ht, Instr.sureAddr, hlt', run_size w hes, add_plain, Nat.add_assoc]
      · cases hf
    · cases hf
  · cases hf

theorem cstr_length (s : ByteArray) : (cstr s).length = s.size := by unfold cstr; rw [List.length_map, Array.length_toList]; rfl
theorem cstr_get (s : ByteArray) (i : Nat) (c : Nat) (hc : (cstr s)[i]? = some c) : ∃ b, s[i]? = some b ∧ b.toNat = c := by
  have hlt : i < s.size := by rw [← cstr_length]; exact (List.getElem?_eq_some_iff.1 hc).1
  refine ⟨s[i], by simp [hlt], ?_⟩
  unfold cstr at hc
  rw [List.getElem?_map] at hc
  have : s.data.toList[i]? = some s[i] := by
    rw [Array.getElem?_toList, Array.getElem?_eq_getElem (show i < s.data.size from hlt)]; rfl
  rw [this] at hc
  exact Option.some.inj hc

theorem idx_ok {o : Oper} {x i : Opd} {X I : Operand} {t : TypeId} {a : AVal} (ho : o.op = .index t X I) (ht : S.P.underlying t = some .string)
    (hx : OpdR ρ tm e ev x X) (hi : OpdR ρ tm e ev i I) (hf : oIdx x i tm e h = some a) : VOk S ρ w ev o a := by
  unfold oIdx at hf
  split at hf
  · rename_i s hb
    split at hf
    · rename_i k q hq
      split at hf
      · rename_i c hc
        obtain rfl := Option.some.inj hf
        have hI := (hi _ hq).int_inv
        obtain ⟨bs, hv, rfl⟩ := (hx _ hb).str_inv
        rw [nth_eq] at hc
        obtain ⟨b, hb', rfl⟩ := cstr_get _ _ _ hc
        refine VOk.of (s := Instr.index t (ev X) (ev I)) (v := .int .u8 b.toNat) (by simp [execOp, ho]) ?_ (.int _ _)
        rw [hI, hv]
        simp [Instr.index, asIntOf, run_under w ht, hb']
      · cases hf
    · cases hf
  · cases hf

theorem field_part {x : Opd} {X : Operand} {t : TypeId} {off : Nat} {b : Bool} {n : Nat} {a : AVal} (hb : aggO S.P t = some b) (hn : szOf S.P t = some n) (hx : OpdR ρ tm e ev x X)
    (hf : oField off (cond b (some n) none) x tm e h = some a) : ∃ l v, ev X = .agg l ∧ (Go.part t l off).run S.P w = .ok v w ∧ VRel ρ a v := by
  unfold oField at hf
  split at hf
  · rename_i l hl
    have hr := hx _ hl
    cases hv : ev X <;> rw [hv] at hr <;> cases hr
    rename_i l' h1 hr
    cases b with
    | false =>
      simp only [cond_false] at hf
      rw [nth_eq] at hf
      obtain ⟨v, hv', hr'⟩ := hr.get _ _ hf
      exact ⟨_, v, rfl, run_part_one w l' off v hb hv', hr'⟩
    | true =>
      simp only [cond_true] at hf
      split at hf
      · rename_i r hr'
        obtain rfl := Option.some.inj hf
        rw [part_eq] at hr'
        split at hr'
        · obtain rfl := Option.some.inj hr'
          exact ⟨_, _, rfl, run_part_agg w l' off hb hn, .agg _ _ ((hr.drop _).take _) fun v hv => h1 v (List.mem_of_mem_drop (List.mem_of_mem_take hv))⟩
        · cases hr'
      · cases hf
  · cases hf
theorem aidx_ok {o : Oper} {x i : Opd} {X I : Operand} {t el : TypeId} {n es : Nat} {b : Bool} {a : AVal} (ho : o.op = .index t X I) (ht : S.P.underlying t = some (.array n el))
    (hes : szOf S.P el = some es) (hb : aggO S.P el = some b) (hx : OpdR ρ tm e ev x X) (hi : OpdR ρ tm e ev i I) (hf : oAidx n es b x i tm e h = some a) : VOk S ρ w ev o a := by
  unfold oAidx at hf
  split at hf
  · rename_i k q hq
    split at hf
    · rename_i hlt
      have hI := (hi _ hq).int_inv
      have hlt : q < n := by simpa [Nat.blt_eq] using hlt
      obtain ⟨l, v, hv, hp, hr⟩ := field_part (w := w) hb hes hx hf
      refine VOk.of (s := Instr.index t (ev X) (ev I)) (v := v) (by simp [execOp, ho]) ?_ hr
      rw [hI, hv]
      simp only [Instr.index, asIntOf, Sem.run_bind, Sem.run_pure, Result.andThen_ok, run_under w ht]
      rw [if_pos ⟨Int.natCast_nonneg q, Int.ofNat_lt.2 hlt⟩]
      simp only [Sem.run_bind, run_size w hes, Result.andThen_ok]
      exact hp
    · cases hf
  · cases hf

theorem ext_ok {o : Oper} {x : Opd} {X : Operand} {i : Nat} {a : AVal} (ho : o.op = .extract X i) (hx : OpdR ρ tm e ev x X) (hf : oExt i x tm e h = some a) : VOk S ρ w ev o a := by
  unfold oExt at hf
  split at hf
  · rename_i l hl
    have hr := hx _ hl
    cases hv : ev X <;> rw [hv] at hr <;> cases hr
    rename_i l' hr
    rw [nth_eq] at hf
    obtain ⟨v, hv', hr'⟩ := hr.get _ _ hf
    refine VOk.of (s := Instr.extract (ev X) i) (v := v) (by simp [execOp, ho]) ?_ hr'
    simp [Instr.extract, hv, hv']
  · cases hf

theorem conv_ok {o : Oper} {x : Opd} {X : Operand} {s d : TypeId} {j k : IntKind} {a : AVal} (ho : o.op = .convert s d X) (hs : S.P.underlying s = some (.int j)) (hd : S.P.underlying d = some (.int k))
    (hx : OpdR ρ tm e ev x X) (hf : oConv k x tm e h = some a) : VOk S ρ w ev o a := by
  unfold oConv at hf
  split at hf
  · rename_i q n hb
    obtain rfl := Option.some.inj hf
    have hI := (hx _ hb).int_inv
    refine VOk.of (s := Go.convert s d (ev X)) (v := .int k (k.wrap n)) (by simp [execOp, ho]) ?_ (by rw [wrapA_eq]; exact .int _ _)
    rw [hI]
    simp [Go.convert, run_under w hs, run_under w hd, Conv.intToInt]
  · cases hf

theorem same_ok {o : Oper} {x : Opd} {X : Operand} {s d : TypeId} {a : AVal} (ho : o.op = .convert s d X) (hs : S.P.underlying s = some .string) (hd : S.P.underlying d = some .string)
    (hx : OpdR ρ tm e ev x X) (hf : oSame x tm e h = some a) : VOk S ρ w ev o a := by
  unfold oSame at hf
  split at hf
  · rename_i q hb
    obtain rfl := Option.some.inj hf
    have hr := hx _ hb
    obtain ⟨bs, hv, rfl⟩ := hr.str_inv
    refine VOk.of (s := Go.convert s d (ev X)) (v := .string bs) (by simp [execOp, ho]) ?_ (.str bs)
    rw [hv]
    simp [Go.convert, run_under w hs, run_under w hd]
  · cases hf

theorem mkif_ok {o : Oper} {x : Opd} {X : Operand} {t : TypeId} {d : TypeDesc} {a : AVal} (ho : o.op = .makeInterface t X) (hd : S.P.underlying t = some d) (hn : ∀ m, d ≠ .interface m)
    (hx : OpdR ρ tm e ev x X) (hf : oMkif t x tm e h = some a) : VOk S ρ w ev o a := by
  unfold oMkif at hf
  split at hf
  · rename_i v hb
    obtain rfl := Option.some.inj hf
    refine VOk.of (s := Instr.makeInterface t (ev X)) (v := .iface t (ev X)) (by simp [execOp, ho]) ?_ (.iface _ _ _ (hx _ hb))
    unfold Instr.makeInterface
    simp only [Sem.run_bind, run_under w hd, Result.andThen_ok]
    cases d <;> first | rfl | exact absurd rfl (hn _)
  · cases hf

theorem tass_ok {o : Oper} {x : Opd} {X : Operand} {t xt : TypeId} {d : TypeDesc} {z a : AVal} {zv : Value} {i : TypeInfo} (ho : o.op = .typeAssert X xt t true) (hd : S.P.underlying t = some d) (hn : ∀ m, d ≠ .interface m)
    (hi : S.P.info? t = some i) (hz : i.zero = some zv) (hzr : VRel ρ z zv) (hx : OpdR ρ tm e ev x X) (hf : oTass t z x tm e h = some a) : VOk S ρ w ev o a := by
  have hzero : (zeroValue t).run S.P w = .ok zv w := by simp [zeroValue, run_info w hi, hz]
  unfold oTass at hf
  split at hf
  · rename_i hb
    obtain rfl := Option.some.inj hf
    have hr := hx _ hb
    have hv : ev X = .nilIface := by generalize ev X = v at hr; cases hr; rfl
    refine VOk.of (s := Instr.typeAssert (ev X) xt t true) (v := .tuple #[zv, .bool false]) (by simp [execOp, ho]) ?_ (.tup _ [_, _] (.cons _ _ _ _ hzr (.cons _ _ _ _ (.bool _) .nil)))
    unfold Instr.typeAssert
    simp only [Sem.run_bind, run_under w hd, Result.andThen_ok, hv]
    cases d <;> first | (simp [hzero]; done) | exact absurd rfl (hn _)
  · rename_i t' v hb
    have hr := hx _ hb
    have hv : ∃ v', ev X = .iface t' v' ∧ VRel ρ v v' := by generalize ev X = u at hr; cases hr; exact ⟨_, rfl, by assumption⟩
    obtain ⟨v', hv, hr'⟩ := hv
    split at hf
    · rename_i heq
      obtain rfl := Option.some.inj hf
      have heq' : t = t' := Nat.eq_of_beq_eq_true heq
      refine VOk.of (s := Instr.typeAssert (ev X) xt t true) (v := .tuple #[v', .bool true]) (by simp [execOp, ho]) ?_ (.tup _ [_, _] (.cons _ _ _ _ hr' (.cons _ _ _ _ (.bool _) .nil)))
      unfold Instr.typeAssert
      simp only [Sem.run_bind, run_under w hd, Result.andThen_ok, hv]
      cases d <;> first | (simp [heq']; done) | exact absurd rfl (hn _)
    · rename_i heq
      obtain rfl := Option.some.inj hf
      have heq' : ¬ t' = t := fun e => Nat.ne_of_beq_eq_false heq e.symm
      refine VOk.of (s := Instr.typeAssert (ev X) xt t true) (v := .tuple #[zv, .bool false]) (by simp [execOp, ho]) ?_ (.tup _ [_, _] (.cons _ _ _ _ hzr (.cons _ _ _ _ (.bool _) .nil)))
      unfold Instr.typeAssert
      simp only [Sem.run_bind, run_under w hd, Result.andThen_ok, hv]
      cases d <;> first | (simp [heq', hzero]; done) | exact absurd rfl (hn _)
  · cases hf

theorem tass1_ok {o : Oper} {x : Opd} {X : Operand} {t xt : TypeId} {d : TypeDesc} {a : AVal} (ho : o.op = .typeAssert X xt t false) (hd : S.P.underlying t = some d) (hn : ∀ m, d ≠ .interface m)
    (hx : OpdR ρ tm e ev x X) (hf : oTass1 t x tm e h = some a) : VOk S ρ w ev o a := by
  unfold oTass1 at hf
  split at hf
  · rename_i t' v hb
    have hr := hx _ hb
    have hv : ∃ v', ev X = .iface t' v' ∧ VRel ρ v v' := by generalize ev X = u at hr; cases hr; exact ⟨_, rfl, by assumption⟩
    obtain ⟨v', hv, hr'⟩ := hv
    split at hf
    · rename_i heq
      obtain rfl := Option.some.inj hf
      have heq' : t = t' := Nat.eq_of_beq_eq_true heq
      refine VOk.of (s := Instr.typeAssert (ev X) xt t false) (v := v') (by simp [execOp, ho]) ?_ hr'
      unfold Instr.typeAssert
      simp only [Sem.run_bind, run_under w hd, Result.andThen_ok, hv]
      cases d <;> first | (simp [heq']; done) | exact absurd rfl (hn _)
    · cases hf
  · cases hf

end Go.Ai

namespace Go.Ai
open Go

variable {S : Stat} {ρ : Rho} {h : H} {w : World} {tm : TM} {e : Env} {ev : Operand → Value}

theorem kPow_pos (k : IntKind) : 0 < kPow k := by cases k <;> decide
theorem kPow_two (k : IntKind) : kPow k = 2 ^ k.bits := by cases k <;> rfl
theorem imod_lt (n : Int) (k : IntKind) : imod n (kPow k) < kPow k := by
  have := imod_eq n (kPow k) (kPow_pos k)
  have h2 := Int.emod_lt_of_pos n (show (0 : Int) < kPow k by have := kPow_pos k; omega)
  omega
theorem fromMod_eq (k : IntKind) (m : Nat) (hm : m < kPow k) : fromMod k m = k.wrap (m : Int) := by
  rw [← wrapA_eq]
  unfold wrapA
  congr 1
  show m = m % kPow k
  rw [Nat.mod_eq_of_lt hm]
theorem ofInt_toNat (k : IntKind) (x : Int) : (BitVec.ofInt k.bits x).toNat = imod x (kPow k) := by
  have := imod_eq x (kPow k) (kPow_pos k)
  rw [BitVec.toNat_ofInt]
  have e : ((2 ^ k.bits : Nat) : Int) = (kPow k : Int) := by rw [kPow_two]
  rw [e]
  omega

theorem arith_ok (P : Program) (op : BinOp) (t : TypeId) (k : IntKind) (x y : Int) (a : AVal) (w : World) (hs : op ≠ .shl ∧ op ≠ .shr) (hf : arith op k x y = some a) :
    ∃ v, (binOp op t (.int k x) (.int k y)).run P w = .ok v w ∧ VRel ρ a v := by
  have hbits : ∀ (o : BinOp) (f : Nat) (hf : f < kPow k) (r : BitVec k.bits), r.toNat = f → VRel ρ (.int k (fromMod k f)) (.int k (k.wrap (r.toNat : Int))) := by
    intro o f hf r hr
    rw [fromMod_eq k f hf, hr]; exact .int _ _
  have hland : ∀ a b : Nat, a < kPow k → Nat.land a b < kPow k := fun a b ha => Nat.lt_of_le_of_lt Nat.and_le_left ha
  have hpow := kPow_two k
  cases op <;> simp only [arith] at hf
  case add => obtain rfl := Option.some.inj hf; exact ⟨.int k (k.wrap (x + y)), by simp [binOp, Op.intArith], by rw [wrapA_eq]; exact .int _ _⟩
  case sub => obtain rfl := Option.some.inj hf; exact ⟨.int k (k.wrap (x - y)), by simp [binOp, Op.intArith], by rw [wrapA_eq]; exact .int _ _⟩
  case mul => obtain rfl := Option.some.inj hf; exact ⟨.int k (k.wrap (x * y)), by simp [binOp, Op.intArith], by rw [wrapA_eq]; exact .int _ _⟩
  case quo =>
    split at hf
    · cases hf
    · rename_i hy
      obtain rfl := Option.some.inj hf
      have hy' : y ≠ 0 := by rw [ieq_eq] at hy; simpa using hy
      exact ⟨.int k (k.wrap (x.tdiv y)), by simp [binOp, Op.intDiv, hy'], by rw [wrapA_eq]; exact .int _ _⟩
  case rem =>
    split at hf
    · cases hf
    · rename_i hy
      obtain rfl := Option.some.inj hf
      have hy' : y ≠ 0 := by rw [ieq_eq] at hy; simpa using hy
      exact ⟨.int k (x.tmod y), by simp [binOp, Op.intDiv, hy'], .int _ _⟩
  case and =>
    obtain rfl := Option.some.inj hf
    exact ⟨_, by simp only [binOp, Op.intBits]; simp, hbits .and _ (hland _ _ (imod_lt x k)) (BitVec.ofInt k.bits x &&& BitVec.ofInt k.bits y) (by rw [BitVec.toNat_and, ofInt_toNat, ofInt_toNat]; rfl)⟩
  case or =>
    obtain rfl := Option.some.inj hf
    exact ⟨_, by simp only [binOp, Op.intBits]; simp, hbits .or _ (by rw [hpow]; exact Nat.or_lt_two_pow (by rw [← hpow]; exact imod_lt x k) (by rw [← hpow]; exact imod_lt y k)) (BitVec.ofInt k.bits x ||| BitVec.ofInt k.bits y) (by rw [BitVec.toNat_or, ofInt_toNat, ofInt_toNat]; rfl)⟩
  case xor =>
    obtain rfl := Option.some.inj hf
    exact ⟨_, by simp only [binOp, Op.intBits]; simp, hbits .xor _ (by rw [hpow]; exact Nat.xor_lt_two_pow (by rw [← hpow]; exact imod_lt x k) (by rw [← hpow]; exact imod_lt y k)) (BitVec.ofInt k.bits x ^^^ BitVec.ofInt k.bits y) (by rw [BitVec.toNat_xor, ofInt_toNat, ofInt_toNat]; rfl)⟩
  case andNot =>
    obtain rfl := Option.some.inj hf
    exact ⟨_, by simp only [binOp, Op.intBits]; simp, hbits .andNot _ (hland _ _ (imod_lt x k)) (BitVec.ofInt k.bits x &&& ~~~ (BitVec.ofInt k.bits y)) (by rw [BitVec.toNat_and, BitVec.toNat_not, ofInt_toNat, ofInt_toNat, ← hpow]; rfl)⟩
  case eql => obtain rfl := Option.some.inj hf; exact ⟨_, by simp [binOp, Op.intCmp]; rfl, by rw [ieq_eq]; exact .bool _⟩
  case neq => obtain rfl := Option.some.inj hf; exact ⟨_, by simp [binOp, Op.intCmp]; rfl, by rw [ieq_eq]; exact .bool _⟩
  case lss => obtain rfl := Option.some.inj hf; exact ⟨_, by simp [binOp, Op.intCmp]; rfl, by rw [ilt_eq]; exact .bool _⟩
  case leq => obtain rfl := Option.some.inj hf; exact ⟨_, by simp [binOp, Op.intCmp]; rfl, by rw [ile_eq]; exact .bool _⟩
  case gtr => obtain rfl := Option.some.inj hf; exact ⟨_, by simp [binOp, Op.intCmp]; rfl, by rw [ilt_eq]; exact .bool _⟩
  case geq => obtain rfl := Option.some.inj hf; exact ⟨_, by simp [binOp, Op.intCmp]; rfl, by rw [ile_eq]; exact .bool _⟩
  all_goals cases hf

theorem kBits_eq (k : IntKind) : kBits k = k.bits := by cases k <;> rfl
theorem fdiv_nat (x : Int) (d : Nat) (hd : 0 < d) : x.fdiv (d : Int) = (match x with | .ofNat a => Int.ofNat (Nat.div a d) | .negSucc a => Int.negSucc (Nat.div a d)) := by
  rw [Int.fdiv_eq_ediv_of_nonneg _ (by omega)]
  cases x with
  | ofNat a => rfl
  | negSucc a =>
    simp only
    rw [Int.negSucc_ediv a (by omega)]
    rw [Int.negSucc_eq]
    simp
    rfl
theorem shift_ok (P : Program) (op : BinOp) (t : TypeId) (k k' : IntKind) (x y : Int) (a : AVal) (w : World) (hs : op = .shl ∨ op = .shr) (hf : shiftA op k x y = some a) :
    ∃ v, (binOp op t (.int k x) (.int k' y)).run P w = .ok v w ∧ VRel ρ a v := by
  unfold shiftA at hf
  split at hf
  · cases hf
  · rename_i q
    have hmin : capS q (kBits k) = min q k.bits := by
      rw [kBits_eq]; unfold capS
      cases hb : Nat.ble q k.bits with
      | true => have := Nat.le_of_ble_eq_true hb; simp; omega
      | false =>
        have : ¬ q ≤ k.bits := fun hle => by have := Nat.ble_eq_true_of_le hle; rw [hb] at this; cases this
        simp; omega
    rw [hmin] at hf
    have hy : ¬ ((q : Int) < 0) := by omega
    rcases hs with rfl | rfl
    · simp only at hf
      obtain rfl := Option.some.inj hf
      refine ⟨.int k (k.wrap (x * 2 ^ min q k.bits)), by simp [binOp, Op.shift]; intro hlt; omega, ?_⟩
      rw [wrapA_eq]
      have : (Int.ofNat (Nat.pow 2 (min q k.bits))) = (2 : Int) ^ min q k.bits := by
        show ((2 ^ min q k.bits : Nat) : Int) = _
        exact Int.natCast_pow 2 _
      rw [this]; exact .int _ _
    · simp only at hf
      obtain rfl := Option.some.inj hf
      refine ⟨.int k (x.fdiv (2 ^ min q k.bits)), by simp [binOp, Op.shift]; intro hlt; omega, ?_⟩
      have e : (2 : Int) ^ min q k.bits = ((2 ^ min q k.bits : Nat) : Int) := (Int.natCast_pow 2 _).symm
      rw [e, fdiv_nat _ _ (Nat.pow_pos (by omega))]
      exact .int _ _

theorem lEq_map : ∀ (x y : List UInt8), lEq (x.map UInt8.toNat) (y.map UInt8.toNat) = (x == y)
  | [], [] => rfl
  | [], _ :: _ => rfl
  | _ :: _, [] => rfl
  | a :: x, b :: y => by
    simp only [List.map_cons, lEq]
    rw [Bool.eq_iff_iff]
    cases hb : Nat.beq a.toNat b.toNat with
    | true =>
      have : a = b := UInt8.toNat_inj.1 (Nat.eq_of_beq_eq_true hb)
      simp [lEq_map x y, this]
    | false =>
      have : ¬ a = b := fun e => by subst e; simp at hb
      simp [this]
theorem lLt_map : ∀ (x y : List UInt8), lLt (x.map UInt8.toNat) (y.map UInt8.toNat) = Op.bytesLess x y
  | [], [] => rfl
  | [], _ :: _ => rfl
  | _ :: _, [] => rfl
  | a :: x, b :: y => by
    simp only [List.map_cons, lLt, Op.bytesLess]
    rw [Bool.eq_iff_iff]
    cases hb : Nat.blt a.toNat b.toNat with
    | true =>
      have : a < b := UInt8.lt_iff_toNat_lt.2 (by simpa [Nat.blt_eq] using hb)
      simp [this]
    | false =>
      have hn : ¬ a < b := fun hlt => by
        have := UInt8.lt_iff_toNat_lt.1 hlt
        have : Nat.blt a.toNat b.toNat = true := by simpa [Nat.blt_eq] using this
        rw [hb] at this; cases this
      cases he : Nat.beq a.toNat b.toNat with
      | true =>
        have : a = b := UInt8.toNat_inj.1 (Nat.eq_of_beq_eq_true he)
        simp [this, lLt_map x y]
      | false =>
        have : ¬ a = b := fun e => by subst e; simp at he
        simp [hn, this]
theorem cstr_toList (s : ByteArray) : cstr s = s.toList.map UInt8.toNat := by unfold cstr; rw [ByteArray.toList_eq]
theorem cstr_append (a b : ByteArray) : cstr (a ++ b) = cstr a ++ cstr b := by simp [cstr, ByteArray.data_append]
theorem bytesLess_total : ∀ (x y : List UInt8), (!Op.bytesLess y x) = (Op.bytesLess x y || x == y)
  | [], [] => rfl
  | [], _ :: _ => rfl
  | _ :: _, [] => rfl
  | a :: x, b :: y => by
    simp only [Op.bytesLess]
    rcases Nat.lt_trichotomy a.toNat b.toNat with hlt | heq | hgt
    · have h1 : a < b := UInt8.lt_iff_toNat_lt.2 hlt
      have h2 : ¬ b < a := fun h => by have := UInt8.lt_iff_toNat_lt.1 h; omega
      have h3 : ¬ b = a := fun h => by subst h; omega
      simp [h1, h2, h3]
    · have h1 : a = b := UInt8.toNat_inj.1 heq
      subst h1
      have h2 : ¬ a < a := fun h => by have := UInt8.lt_iff_toNat_lt.1 h; omega
      simp [h2, bytesLess_total x y]
    · have h1 : b < a := UInt8.lt_iff_toNat_lt.2 hgt
      have h2 : ¬ a < b := fun h => by have := UInt8.lt_iff_toNat_lt.1 h; omega
      have h3 : ¬ a = b := fun h => by subst h; omega
      simp [h1, h2, h3]


theorem str_ok (P : Program) (op : BinOp) (t : TypeId) (x y : ByteArray) (a : AVal) (w : World)
    (hf : binS op (cstr x) (cstr y) = some a) : ∃ v, (binOp op t (.string x) (.string y)).run P w = .ok v w ∧ VRel ρ a v := by
  have hm : ∀ s, cstr s = s.toList.map UInt8.toNat := cstr_toList
  have tot := bytesLess_total
  cases op <;> simp only [binS] at hf
  case add =>
    split at hf
    · rename_i hle
      obtain rfl := Option.some.inj hf
      have hle' := Nat.le_of_ble_eq_true hle
      simp only [cstr_length] at hle'
      refine ⟨.string (x ++ y), ?_, by rw [← cstr_append]; exact .str _⟩
      simp only [binOp, Op.stringOp]
      rw [if_neg]
      · rfl
      · have : IntKind.i64.max = 9223372036854775807 := by decide
        rw [this]
        have : x.size + y.size ≤ 9223372036854775807 := hle'
        omega
    · cases hf
  case eql => obtain rfl := Option.some.inj hf; exact ⟨_, by simp only [binOp, Op.stringOp]; rfl, by rw [hm, hm, lEq_map]; exact .bool _⟩
  case neq => obtain rfl := Option.some.inj hf; exact ⟨_, by simp only [binOp, Op.stringOp]; rfl, by rw [hm, hm, lEq_map]; exact .bool _⟩
  case lss => obtain rfl := Option.some.inj hf; exact ⟨_, by simp only [binOp, Op.stringOp]; rfl, by rw [hm, hm, lLt_map]; exact .bool _⟩
  case leq => obtain rfl := Option.some.inj hf; exact ⟨_, by simp only [binOp, Op.stringOp]; rfl, by rw [hm, hm, lLt_map, tot]; exact .bool _⟩
  case gtr => obtain rfl := Option.some.inj hf; exact ⟨.bool (!(Op.bytesLess x.toList y.toList || x.toList == y.toList)), by simp only [binOp, Op.stringOp]; rfl, by rw [hm, hm, lLt_map, ← tot, Bool.not_not]; exact .bool _⟩
  case geq => obtain rfl := Option.some.inj hf; exact ⟨_, by simp only [binOp, Op.stringOp]; rfl, by rw [hm, hm, lLt_map]; exact .bool _⟩
  all_goals cases hf

theorem equal_unfold (P : Program) (t : TypeId) (x y : Value) (d : TypeDesc) (w : World) (hd : P.underlying t = some d) (r : Bool)
    (hr : (Op.equalIn 10000 t x y).run P w = .ok r w) : (Op.equal t x y).run P w = .ok r w := hr

theorem own_plain (r : HR S ρ h w) {b : Nat} {pl : Place} {cs : List AVal} {el es : Nat} (hb : ρ b = some pl) (hg : h.get b = some (.cells cs el es .own false)) :
    ∃ c, w.heap[pl.blk]? = some (.cells c el (0, 0)) := by
  obtain ⟨c, lo, hi, hw, _, _, _, hk⟩ := r.cells hb hg
  obtain ⟨rfl, rfl⟩ := hk.2.2.2.1 rfl
  exact ⟨c, hw⟩

theorem sameAddr_ok (r : HR S ρ h w) {a i b j : Nat} {pa pb : Place} {q : Bool} (ha : ρ a = some pa) (hb : ρ b = some pb) (hf : ptrEq h a i b j = some q) :
    (sameAddr ⟨pa.blk, pa.sh + i, none⟩ ⟨pb.blk, pb.sh + j, none⟩).run S.P w = .ok q w := by
  unfold ptrEq at hf
  split at hf
  · rename_i he
    obtain rfl := Nat.eq_of_beq_eq_true he
    obtain rfl : pa = pb := Option.some.inj (ha.symm.trans hb)
    obtain rfl := Option.some.inj hf
    have : ((⟨pa.blk, pa.sh + i, none⟩ : Addr) == ⟨pa.blk, pa.sh + j, none⟩) = Nat.beq i j := by
      rw [Bool.eq_iff_iff]; simp
    unfold sameAddr
    simp [this]
  · rename_i he
    split at hf
    · rename_i csa ela esa hga
      split at hf
      · rename_i csb elb esb hgb
        obtain rfl := Option.some.inj hf
        obtain ⟨ca, hca⟩ := own_plain r ha hga
        obtain ⟨cb, hcb⟩ := own_plain r hb hgb
        have hne : pa.blk ≠ pb.blk := fun eb => by
          have := (r.inj a b pa pb _ _ ha hb hga hgb (Nat.ne_of_beq_eq_false he) eb).1
          simp [isRO] at this
        have fa : ∀ q, w.frozen? ⟨pa.blk, q, none⟩ = false := fun q => by rw [frozen_of_heap hca]; simp
        have fb : ∀ q, w.frozen? ⟨pb.blk, q, none⟩ = false := fun q => by rw [frozen_of_heap hcb]; simp
        have sa := shape_of_heap hca
        have sb := shape_of_heap hcb
        simp [sameAddr, hne, fa, fb, noView, viewAt, sa, sb, mayBeOne, stringish]
      · cases hf
    · cases hf

end Go.Ai

namespace Go.Ai
open Go

variable {S : Stat} {ρ : Rho} {h : H} {w : World} {tm : TM} {e : Env} {ev : Operand → Value}

theorem eqGuard_int (P : Program) (op : BinOp) (t : TypeId) (X Y : Operand) (k k' : IntKind) (a b : Int) (w : World) : (eqGuard op t X Y (.int k a) (.int k' b)).run P w = .ok () w := by
  unfold eqGuard; cases op <;> rfl
theorem eqGuard_str (P : Program) (op : BinOp) (t : TypeId) (X Y : Operand) (a b : ByteArray) (w : World) : (eqGuard op t X Y (.string a) (.string b)).run P w = .ok () w := by
  unfold eqGuard; cases op <;> rfl

theorem shl_cases (op : BinOp) : op = .shl ∨ op = .shr ∨ (op ≠ .shl ∧ op ≠ .shr) := by cases op <;> simp
theorem binI_ok (P : Program) (op : BinOp) (t : TypeId) (k k' : IntKind) (x y : Int) (a : AVal) (w : World) (hf : binI op k k' x y = some a) :
    ∃ v, (binOp op t (.int k x) (.int k' y)).run P w = .ok v w ∧ VRel ρ a v := by
  rcases shl_cases op with rfl | rfl | hn
  · exact shift_ok P .shl t k k' x y a w (.inl rfl) hf
  · exact shift_ok P .shr t k k' x y a w (.inr rfl) hf
  · have hf' : (match kEq k k' with | true => arith op k x y | false => none) = some a := by
      cases op <;> first | exact hf | simp at hn
    split at hf'
    · rename_i hk
      rw [kEq_eq] at hk
      obtain rfl : k = k' := of_decide_eq_true hk
      exact arith_ok P op t k x y a w hn hf'
    · cases hf'

def EqOk (P : Program) (t : TypeId) (lit : Bool) (kd : EqK) : Prop := eqK P t lit = some kd

theorem run_equal {P : Program} {t : TypeId} {d : TypeDesc} {x y : Value} {w : World} {r : Result Bool} (hd : P.underlying t = some d)
    (hr : ∀ n, (Op.equalIn (n + 1) t x y).run P w = r) : (Op.equal t x y).run P w = r := hr 9999

theorem slice_inv {a : AVal} {v : Value} {q : Bool} (hr : VRel ρ a v) (hn : nilSlice a = some q) : ∃ b n c, v = .slice b n c ∧ b.isNone = q := by
  cases hr <;> simp only [nilSlice] at hn <;> first | (obtain rfl := Option.some.inj hn; exact ⟨_, _, _, rfl, rfl⟩) | cases hn
theorem map_inv {a : AVal} {v : Value} {q : Bool} (hr : VRel ρ a v) (hn : nilMap a = some q) : ∃ b, v = .map b ∧ b.isNone = q := by
  cases hr <;> simp only [nilMap] at hn <;> first | (obtain rfl := Option.some.inj hn; exact ⟨_, rfl, rfl⟩) | cases hn
theorem fn_inv {a : AVal} {v : Value} {q : Bool} (hr : VRel ρ a v) (hn : nilFn a = some q) : (q = true ∧ v = .nilFunc) ∨ (q = false ∧ ∃ f b c, v = .func f b c) := by
  cases hr <;> simp only [nilFn] at hn <;> first | (obtain rfl := Option.some.inj hn; first | exact .inl ⟨rfl, rfl⟩ | exact .inr ⟨rfl, _, _, _, rfl⟩) | cases hn
theorem if_inv {a : AVal} {v : Value} {q : Bool} (hr : VRel ρ a v) (hn : nilIf a = some q) : (q = true ∧ v = .nilIface) ∨ (q = false ∧ ∃ t u, v = .iface t u) := by
  cases hr <;> simp only [nilIf] at hn <;> first | (obtain rfl := Option.some.inj hn; first | exact .inl ⟨rfl, rfl⟩ | exact .inr ⟨rfl, _, _, rfl⟩) | cases hn
theorem isNil_inv {n : AVal → Option Bool} {x y : AVal} {q : Bool} (hf : isNil n x y = some q) :
    (n x = some true ∧ n y = some q) ∨ (n x = some false ∧ n y = some true ∧ q = false) := by
  unfold isNil at hf
  split at hf
  · cases hf
  · rename_i hx; exact .inl ⟨hx, hf⟩
  · rename_i hx
    split at hf
    · rename_i hy; exact .inr ⟨hx, hy, (Option.some.inj hf).symm⟩
    · cases hf

theorem eqA_ok (r : HR S ρ h w) {t : TypeId} {lit : Bool} {kd : EqK} {x y : AVal} {X Y : Operand} {q : Bool} (ht : eqK S.P t lit = some kd) (hl : lit = true → isConstO X = true ∨ isConstO Y = true)
    (hx : VRel ρ x (ev X)) (hy : VRel ρ y (ev Y)) (hf : eqA h kd x y = some q) (op : BinOp) :
    (eqGuard op t X Y (ev X) (ev Y)).run S.P w = .ok () w ∧ (Op.equal t (ev X) (ev Y)).run S.P w = .ok q w ∧
      (op = .eql ∨ op = .neq → ∀ u : World, (binOp op t (ev X) (ev Y)) = (match op with | .eql => do pure (.bool (← Op.equal t (ev X) (ev Y))) | _ => do pure (.bool (!(← Op.equal t (ev X) (ev Y)))))) := by
  generalize hvx : ev X = vx at hx
  generalize hvy : ev Y = vy at hy
  unfold eqK at ht
  unfold eqA at hf
  split at ht
  · rename_i el hd
    cases hs : szOf S.P el with
    | none => simp [hs] at ht
    | some n =>
      simp [hs] at ht
      obtain ⟨hn, rfl⟩ := ht
      simp only at hf
      cases hx <;> cases hy <;> simp only [eqPtr] at hf <;> try cases hf
      · rename_i b1 o1 p1 h1 b2 o2 p2 h2
        refine ⟨by unfold eqGuard; cases op <;> rfl, ?_, fun ho u => by rcases ho with rfl | rfl <;> rfl⟩
        refine run_equal hd fun m => ?_
        unfold Op.equalIn
        simp [run_under w hd, run_size w hs, hn, sameAddr_ok r h1 h2 hf]
      · refine ⟨by unfold eqGuard; cases op <;> rfl, ?_, fun ho u => by rcases ho with rfl | rfl <;> rfl⟩
        refine run_equal hd fun m => ?_
        unfold Op.equalIn
        simp [run_under w hd]
      · refine ⟨by unfold eqGuard; cases op <;> rfl, ?_, fun ho u => by rcases ho with rfl | rfl <;> rfl⟩
        refine run_equal hd fun m => ?_
        unfold Op.equalIn
        simp [run_under w hd]
      · refine ⟨by unfold eqGuard; cases op <;> rfl, ?_, fun ho u => by rcases ho with rfl | rfl <;> rfl⟩
        refine run_equal hd fun m => ?_
        unfold Op.equalIn
        simp [run_under w hd]
  · rename_i hd
    obtain rfl := Option.some.inj ht
    simp only at hf
    cases hx <;> cases hy <;> simp only [eqBool] at hf <;> try cases hf
    refine ⟨by unfold eqGuard; cases op <;> rfl, ?_, fun ho u => by rcases ho with rfl | rfl <;> rfl⟩
    refine run_equal hd fun m => ?_
    unfold Op.equalIn
    simp [run_under w hd]
  · obtain rfl := Option.some.inj ht; cases hf
  · obtain rfl := Option.some.inj ht; cases hf
  · rename_i el hd
    obtain rfl := Option.some.inj ht
    simp only at hf
    have key : ∃ b n c b' n' c', vx = .slice b n c ∧ vy = .slice b' n' c' ∧ ((b.isNone = true ∧ b'.isNone = q) ∨ (b.isNone = false ∧ b'.isNone = true ∧ q = false)) := by
      rcases isNil_inv hf with ⟨h1, h2⟩ | ⟨h1, h2, h3⟩
      · obtain ⟨b, n, c, e1, e2⟩ := slice_inv hx h1
        obtain ⟨b', n', c', e3, e4⟩ := slice_inv hy h2
        exact ⟨b, n, c, b', n', c', e1, e3, .inl ⟨e2, e4⟩⟩
      · obtain ⟨b, n, c, e1, e2⟩ := slice_inv hx h1
        obtain ⟨b', n', c', e3, e4⟩ := slice_inv hy h2
        exact ⟨b, n, c, b', n', c', e1, e3, .inr ⟨e2, e4, h3⟩⟩
    obtain ⟨b, n, c, b', n', c', rfl, rfl, hq⟩ := key
    refine ⟨by unfold eqGuard; cases op <;> rfl, ?_, fun ho u => by rcases ho with rfl | rfl <;> rfl⟩
    refine run_equal hd fun m => ?_
    unfold Op.equalIn
    rcases hq with ⟨e1, e2⟩ | ⟨e1, e2, rfl⟩
    · cases b with
      | none => simp [run_under w hd, e2]
      | some _ => cases e1
    · cases b with
      | none => cases e1
      | some _ => cases b' with
        | none => simp [run_under w hd]
        | some _ => cases e2
  · rename_i k el hd
    obtain rfl := Option.some.inj ht
    simp only at hf
    have key : ∃ b b', vx = .map b ∧ vy = .map b' ∧ ((b.isNone = true ∧ b'.isNone = q) ∨ (b.isNone = false ∧ b'.isNone = true ∧ q = false)) := by
      rcases isNil_inv hf with ⟨h1, h2⟩ | ⟨h1, h2, h3⟩
      · obtain ⟨b, e1, e2⟩ := map_inv hx h1
        obtain ⟨b', e3, e4⟩ := map_inv hy h2
        exact ⟨b, b', e1, e3, .inl ⟨e2, e4⟩⟩
      · obtain ⟨b, e1, e2⟩ := map_inv hx h1
        obtain ⟨b', e3, e4⟩ := map_inv hy h2
        exact ⟨b, b', e1, e3, .inr ⟨e2, e4, h3⟩⟩
    obtain ⟨b, b', rfl, rfl, hq⟩ := key
    refine ⟨by unfold eqGuard; cases op <;> rfl, ?_, fun ho u => by rcases ho with rfl | rfl <;> rfl⟩
    refine run_equal hd fun m => ?_
    unfold Op.equalIn
    rcases hq with ⟨e1, e2⟩ | ⟨e1, e2, rfl⟩
    · cases b with
      | none => simp [run_under w hd, e2]
      | some _ => cases e1
    · cases b with
      | none => cases e1
      | some _ => cases b' with
        | none => simp [run_under w hd]
        | some _ => cases e2
  · rename_i a1 a2 a3 hd
    obtain rfl := Option.some.inj ht
    simp only at hf
    rcases isNil_inv hf with ⟨h1, h2⟩ | ⟨h1, h2, rfl⟩
    · rcases fn_inv hx h1 with ⟨_, rfl⟩ | ⟨c, _⟩
      · rcases fn_inv hy h2 with ⟨rfl, rfl⟩ | ⟨rfl, f, b, c, rfl⟩
        all_goals
          refine ⟨by unfold eqGuard; cases op <;> rfl, ?_, fun ho u => by rcases ho with rfl | rfl <;> rfl⟩
          refine run_equal hd fun m => ?_
          unfold Op.equalIn
          simp [run_under w hd]
      · cases c
    · rcases fn_inv hx h1 with ⟨c, _⟩ | ⟨_, f, b, c, rfl⟩
      · cases c
      · rcases fn_inv hy h2 with ⟨_, rfl⟩ | ⟨c, _⟩
        · refine ⟨by unfold eqGuard; cases op <;> rfl, ?_, fun ho u => by rcases ho with rfl | rfl <;> rfl⟩
          refine run_equal hd fun m => ?_
          unfold Op.equalIn
          simp [run_under w hd]
        · cases c
  · rename_i ms hd
    obtain rfl := Option.some.inj ht
    simp only at hf
    have hfin : ∃ q', isNil nilIf x y = some q' ∧ q' = q ∧ (q' = true → lit = true) := by
      split at hf
      · rename_i hi
        cases lit with
        | true => exact ⟨true, hi, Option.some.inj hf, fun _ => rfl⟩
        | false => cases hf
      · rename_i hi
        refine ⟨q, hf, rfl, fun hq => ?_⟩
        subst hq; exact absurd hf hi
    obtain ⟨q', hi, rfl, hlit⟩ := hfin
    rcases isNil_inv hi with ⟨h1, h2⟩ | ⟨h1, h2, rfl⟩
    · rcases if_inv hx h1 with ⟨_, rfl⟩ | ⟨c, _⟩
      · rcases if_inv hy h2 with ⟨rfl, rfl⟩ | ⟨rfl, t', u', rfl⟩
        · have hc := hl (hlit rfl)
          refine ⟨?_, ?_, fun ho u => by rcases ho with rfl | rfl <;> rfl⟩
          · rcases hc with hc | hc
            · cases X <;> first | (unfold eqGuard; cases op <;> rfl) | cases hc
            · cases X <;> cases Y <;> first | (unfold eqGuard; cases op <;> rfl) | cases hc
          · refine run_equal hd fun m => ?_
            unfold Op.equalIn
            simp [run_under w hd]
        · refine ⟨by unfold eqGuard; cases op <;> rfl, ?_, fun ho u => by rcases ho with rfl | rfl <;> rfl⟩
          refine run_equal hd fun m => ?_
          unfold Op.equalIn
          simp [run_under w hd]
      · cases c
    · rcases if_inv hx h1 with ⟨c, _⟩ | ⟨_, t', u', rfl⟩
      · cases c
      · rcases if_inv hy h2 with ⟨_, rfl⟩ | ⟨c, _⟩
        · refine ⟨by unfold eqGuard; cases op <;> rfl, ?_, fun ho u => by rcases ho with rfl | rfl <;> rfl⟩
          refine run_equal hd fun m => ?_
          unfold Op.equalIn
          simp [run_under w hd]
        · cases c
  · cases ht

theorem bin_ok {o : Oper} {x y : Opd} {X Y : Operand} {op : BinOp} {t u : TypeId} {kd : EqK} {a : AVal} (r : HR S ρ h w) (ho : o.op = .binOp op t X Y u)
    (ht : (op = .eql ∨ op = .neq) → eqK S.P t (isConstO X || isConstO Y) = some kd) (hx : OpdR ρ tm e ev x X) (hy : OpdR ρ tm e ev y Y) (hf : oBin op kd x y tm e h = some a) : VOk S ρ w ev o a := by
  unfold oBin at hf
  split at hf
  case h_2 => cases hf
  rename_i p hp
  split at hf
  case h_2 => cases hf
  rename_i q hq
  have hX := hx _ hp
  have hY := hy _ hq
  have done : ∀ v, (eqGuard op t X Y (ev X) (ev Y)).run S.P w = .ok () w → (binOp op t (ev X) (ev Y)).run S.P w = .ok v w → VRel ρ a v → VOk S ρ w ev o a := by
    intro v h1 h2 h3
    exact ⟨v, by simp [execOp, ho, h1, h2], h3⟩
  unfold binA at hf
  split at hf
  · split at hf
    · have e1 := hX.int_inv; have e2 := hY.int_inv
      obtain ⟨v, hv, hr⟩ := binI_ok (ρ := ρ) S.P op t _ _ _ _ a w hf
      exact done v (by rw [e1, e2]; exact eqGuard_int ..) (by rw [e1, e2]; exact hv) hr
    · cases hf
  · split at hf
    · obtain ⟨b1, e1, rfl⟩ := hX.str_inv
      obtain ⟨b2, e2, rfl⟩ := hY.str_inv
      obtain ⟨v, hv, hr⟩ := str_ok (ρ := ρ) S.P op t b1 b2 a w hf
      exact done v (by rw [e1, e2]; exact eqGuard_str ..) (by rw [e1, e2]; exact hv) hr
    · cases hf
  · unfold binE at hf
    have hlit : (isConstO X || isConstO Y) = true → isConstO X = true ∨ isConstO Y = true := by simp
    split at hf
    · split at hf
      · rename_i b hb
        obtain rfl := Option.some.inj hf
        obtain ⟨h1, h2, h3⟩ := eqA_ok r (ht (.inl rfl)) hlit hX hY hb .eql
        exact done (.bool b) h1 (by rw [h3 (.inl rfl) w]; simp [h2]) (.bool _)
      · cases hf
    · split at hf
      · rename_i b hb
        obtain rfl := Option.some.inj hf
        obtain ⟨h1, h2, h3⟩ := eqA_ok r (ht (.inr rfl)) hlit hX hY hb .neq
        exact done (.bool !b) h1 (by rw [h3 (.inr rfl) w]; simp [h2]) (.bool _)
      · cases hf
    · cases hf

theorem un_ok {o : Oper} {x : Opd} {X : Operand} {op : UnOp} {t : TypeId} {a : AVal} (ho : o.op = .unOp op t X) (hx : OpdR ρ tm e ev x X) (hf : oUn op x tm e h = some a) : VOk S ρ w ev o a := by
  unfold oUn at hf
  split at hf
  case h_2 => cases hf
  rename_i p hp
  have hX := hx _ hp
  unfold unA at hf
  split at hf
  · rename_i k n
    have e1 := hX.int_inv
    split at hf
    · obtain rfl := Option.some.inj hf
      refine VOk.of (s := Op.unary .neg (ev X)) (v := .int k (k.wrap (0 - n))) (by simp [execOp, ho]) ?_ (by rw [wrapA_eq]; exact .int _ _)
      rw [e1]; simp [Op.unary, Op.intArith]
    · obtain rfl := Option.some.inj hf
      have hpow := kPow_two k
      have hlt : Nat.sub (Nat.sub (kPow k) 1) (imod n (kPow k)) < kPow k := by
        have := kPow_pos k
        show kPow k - 1 - imod n (kPow k) < kPow k
        omega
      have hv : (BitVec.ofInt k.bits (if k.signed then -1 else k.max) ^^^ BitVec.ofInt k.bits n).toNat = Nat.sub (Nat.sub (kPow k) 1) (imod n (kPow k)) := by
        have e0 : BitVec.ofInt k.bits (if k.signed then -1 else k.max) = BitVec.allOnes k.bits := by cases k <;> decide
        rw [e0, BitVec.allOnes_xor, BitVec.toNat_not, ofInt_toNat, ← hpow]; rfl
      refine VOk.of (s := Op.unary .xor (ev X)) (v := .int k (k.wrap ((Nat.sub (Nat.sub (kPow k) 1) (imod n (kPow k)) : Nat) : Int))) (by simp [execOp, ho]) ?_ (by rw [fromMod_eq k _ hlt]; exact .int _ _)
      rw [e1]
      simp only [Op.unary, Op.intBits]
      rw [← hv]; rfl
    · cases hf
  · rename_i b
    have e1 := hX.bool_inv
    split at hf
    · obtain rfl := Option.some.inj hf
      refine VOk.of (s := Op.unary .not (ev X)) (v := .bool !b) (by simp [execOp, ho]) ?_ (.bool _)
      rw [e1]; simp [Op.unary]
    · cases hf
  · cases hf

end Go.Ai

namespace Go.Ai
open Go

variable {S : Stat} {ρ : Rho} {h : H} {w : World} {tm : TM} {e : Env} {ev : Operand → Value}

def OpdRO (ρ : Rho) (tm : TM) (e : Env) (ev : Operand → Value) : Option Opd → Option Operand → Prop
  | none, none => True
  | some x, some X => OpdR ρ tm e ev x X
  | _, _ => False
inductive OpdsR (ρ : Rho) (tm : TM) (e : Env) (ev : Operand → Value) : List Opd → List Operand → Prop
  | nil : OpdsR ρ tm e ev [] []
  | cons (x : Opd) (l : List Opd) (X : Operand) (L : List Operand) : OpdR ρ tm e ev x X → OpdsR ρ tm e ev l L → OpdsR ρ tm e ev (x :: l) (X :: L)
theorem OpdsR.rd : ∀ {l : List Opd} {L : List Operand}, OpdsR ρ tm e ev l L → ∀ vs, rdL l tm e = some vs → VRels ρ vs (L.map ev)
  | _, _, .nil, vs, hv => by obtain rfl := Option.some.inj hv; exact .nil
  | _, _, .cons x l X L hx hl, vs, hv => by
    simp only [rdL] at hv
    split at hv
    · cases hv
    · rename_i a ha
      split at hv
      · cases hv
      · rename_i r hr
        obtain rfl := Option.some.inj hv
        exact .cons _ _ _ _ (hx _ ha) (hl.rd _ hr)

theorem mkfn_ok {o : Oper} {f : Nat} {a c : List Opd} {A C : Array Operand} {v : AVal} (ho : o.op = .makeFunc (.func f) A C) (ha : OpdsR ρ tm e ev a A.toList) (hc : OpdsR ρ tm e ev c C.toList)
    (hf : oMkfn f a c tm e h = some v) : VOk S ρ w ev o v := by
  unfold oMkfn at hf
  split at hf
  · rename_i as has
    split at hf
    · rename_i cs hcs
      obtain rfl := Option.some.inj hf
      refine VOk.of (s := Instr.makeFunc (.func f) (A.map ev) (C.map ev)) (v := .func (.func f) (A.map ev) (C.map ev)) (by simp [execOp, ho]) rfl ?_
      have h1 := ha.rd _ has
      have h2 := hc.rd _ hcs
      have := VRel.func (ρ := ρ) (.func f) (.func f) as cs _ _ (.func f) h1 h2
      have e : ∀ B : Array Operand, (B.toList.map ev).toArray = B.map ev := fun B => by rw [← Array.toList_map, Array.toArray_toList]
      rw [e, e] at this
      exact this
    · cases hf
  · cases hf

theorem natOf_inv {a : AVal} {v : Value} {n : Nat} (hr : VRel ρ a v) (hn : natOf a = some n) : ∃ k, v = .int k (n : Int) := by
  unfold natOf at hn
  split at hn
  · obtain rfl := Option.some.inj hn; exact ⟨_, hr.int_inv⟩
  · cases hn
theorem run_bound {P : Program} (w : World) {k : IntKind} {n y : Nat} (code : BoundsCode) (hle : n ≤ y) : (Instr.sliceBound (.int k (n : Int)) y code).run P w = .ok n w := by
  simp [Instr.sliceBound, asIntOf, hle]

theorem natOr_inv {d n : Nat} {x : Option Opd} {X : Option Operand} {a : Option AVal} (hx : OpdRO ρ tm e ev x X) (hr : rdO x tm e = some a) (hn : natOr d a = some n) :
    (X = none ∧ a = none ∧ n = d) ∨ (∃ Y k, X = some Y ∧ a.isSome = true ∧ ev Y = .int k (n : Int)) := by
  cases x with
  | none =>
    cases X with
    | none =>
      simp [rdO] at hr; subst hr
      simp [natOr] at hn
      exact .inl ⟨rfl, rfl, hn.symm⟩
    | some X => exact hx.elim
  | some x =>
    cases X with
    | none => exact hx.elim
    | some X =>
      simp only [rdO] at hr
      split at hr
      · cases hr
      · rename_i v hv
        obtain rfl := Option.some.inj hr
        obtain ⟨k, hk⟩ := natOf_inv (hx _ hv) hn
        exact .inr ⟨X, k, rfl, rfl, hk⟩

theorem bounds_inv {c d : Nat} {l h m : Option AVal} {r : Nat × Nat × Nat} (hb : bounds c d l h m = some r) :
    natOr 0 l = some r.1 ∧ natOr d h = some r.2.1 ∧ natOr c m = some r.2.2 ∧ r.1 ≤ r.2.1 ∧ r.2.1 ≤ r.2.2 ∧ r.2.2 ≤ c := by
  unfold bounds at hb
  split at hb
  · cases hb
  rename_i m' hm
  split at hb
  · cases hb
  rename_i h' hh
  split at hb
  · cases hb
  rename_i l' hl
  split at hb
  · rename_i hle
    obtain rfl := Option.some.inj hb
    simp only [Bool.and_eq_true, Nat.ble_eq] at hle
    exact ⟨hl, hh, hm, hle.1.1, hle.1.2, hle.2⟩
  · cases hb

theorem run_sliceBounds {P : Program} (w : World) (isS : Bool) (len cap n : Nat) {l hi m : Option Opd} {L HI M : Option Operand} {lv hv mv : Option AVal} {r : Nat × Nat × Nat} (hmh : ¬ (M.isSome = true ∧ HI = none))
    (hl : OpdRO ρ tm e ev l L) (hh : OpdRO ρ tm e ev hi HI) (hm : OpdRO ρ tm e ev m M) (el : rdO l tm e = some lv) (eh : rdO hi tm e = some hv) (em : rdO m tm e = some mv)
    (hb : bounds n len lv hv mv = some r) (hn : n ≤ cap) (hlen : M = none → HI = none → len ≤ n) :
    (Instr.sliceBounds isS len cap (L.map ev) (HI.map ev) (M.map ev)).run P w = .ok (r.1, r.2.1, if M.isSome then r.2.2 else cap) w := by
  obtain ⟨h1, h2, h3, h4, h5, h6⟩ := bounds_inv hb
  rcases natOr_inv hm em h3 with ⟨rfl, _, _⟩ | ⟨MY, km, rfl, _, hM⟩
  · rcases natOr_inv hh eh h2 with ⟨rfl, _, he⟩ | ⟨HY, kh, rfl, _, hH⟩
    · rcases natOr_inv hl el h1 with ⟨rfl, _, he0⟩ | ⟨LY, kl, rfl, _, hL⟩
      · simp [Instr.sliceBounds, he, he0]
      · simp [Instr.sliceBounds, hL, ← he, run_bound w _ h4]
    · have hb1 := run_bound (P := P) w (k := kh) (if isS then BoundsCode.sliceAcap else .sliceAlen) (Nat.le_trans h5 (Nat.le_trans h6 hn))
      rcases natOr_inv hl el h1 with ⟨rfl, _, he0⟩ | ⟨LY, kl, rfl, _, hL⟩
      · simp [Instr.sliceBounds, hH, hb1, he0]
      · simp [Instr.sliceBounds, hH, hb1, hL, run_bound w _ h4]
  · rcases natOr_inv hh eh h2 with ⟨rfl, _, _⟩ | ⟨HY, kh, rfl, _, hH⟩
    · exact absurd ⟨rfl, rfl⟩ hmh
    · have hb0 := run_bound (P := P) w (k := km) (if isS then BoundsCode.slice3Acap else .slice3Alen) (Nat.le_trans h6 hn)
      have hb1 := run_bound (P := P) w (k := kh) BoundsCode.slice3B h5
      rcases natOr_inv hl el h1 with ⟨rfl, _, he0⟩ | ⟨LY, kl, rfl, _, hL⟩
      · simp [Instr.sliceBounds, hM, hb0, hH, hb1, he0]
      · simp [Instr.sliceBounds, hM, hb0, hH, hb1, hL, run_bound w _ h4]

theorem slc_ok {o : Oper} {x : Opd} {l hi m : Option Opd} {X : Operand} {L HI M : Option Operand} {t el : TypeId} {es : Nat} {a : AVal} (ho : o.op = .slice t X L HI M)
    (ht : S.P.underlying t = some (.slice el)) (hes : szOf S.P el = some es) (hmh : ¬ (M.isSome = true ∧ HI = none))
    (hx : OpdR ρ tm e ev x X) (hl : OpdRO ρ tm e ev l L) (hh : OpdRO ρ tm e ev hi HI) (hm : OpdRO ρ tm e ev m M) (hf : oSlc es x l hi m tm e h = some a) : VOk S ρ w ev o a := by
  unfold oSlc at hf
  split at hf
  case h_2 => cases hf
  rename_i xv hxv
  split at hf
  case h_2 => cases hf
  rename_i lv elv
  split at hf
  case h_2 => cases hf
  rename_i hv ehv
  split at hf
  case h_2 => cases hf
  rename_i mv emv
  have hX := hx _ hxv
  have run : ∀ (A : Option Addr) (len cap n : Nat) (r : Nat × Nat × Nat), ev X = .slice A len cap → bounds n len lv hv mv = some r → n ≤ cap → len ≤ n →
      VRel ρ a (.slice (if (if M.isSome then r.2.2 else cap) = r.1 then A else A.map (·.add (r.1 * es))) (r.2.1 - r.1) ((if M.isSome then r.2.2 else cap) - r.1)) → VOk S ρ w ev o a := by
    intro A len cap n r hA hb hn hlen hr
    refine VOk.of (s := Instr.sliceAt t (ev X) (L.map ev) (HI.map ev) (M.map ev)) (by simp [execOp, ho]) ?_ hr
    have hrb := run_sliceBounds (P := S.P) w true len cap n hmh hl hh hm elv ehv emv hb hn (fun _ _ => hlen)
    unfold Instr.sliceAt
    simp only [Sem.run_bind, run_under w ht, Result.andThen_ok]
    rw [hA]
    unfold Instr.slice
    simp only [Sem.run_bind, run_under w ht, Result.andThen_ok, hrb, run_size w hes, Sem.run_pure]
  have hMm : M.isSome = mv.isSome := by
    cases m <;> cases M <;> simp only [OpdRO] at hm <;> try exact hm.elim
    · simp [rdO] at emv; subst emv; rfl
    · simp only [rdO] at emv; split at emv
      · cases emv
      · obtain rfl := Option.some.inj emv; rfl
  unfold sliceA at hf
  split at hf
  · split at hf
    · rename_i r hb
      obtain rfl := Option.some.inj hf
      have e1 : ev X = .slice none 0 0 := by generalize ev X = v at hX; cases hX; rfl
      obtain ⟨_, _, _, h4, h5, h6⟩ := bounds_inv hb
      have h7 : r.2.2 = 0 := by omega
      have h8 : r.2.1 = 0 := by omega
      have h9 : r.1 = 0 := by omega
      refine run none 0 0 0 r e1 hb (Nat.le_refl _) (Nat.le_refl _) ?_
      simp [h7, h8, h9]
      exact .nils
    · cases hf
  · split at hf
    · rename_i r hb
      obtain rfl := Option.some.inj hf
      have e1 : ∃ A c, ev X = .slice (some A) 0 c := by generalize ev X = v at hX; cases hX; exact ⟨_, _, rfl⟩
      obtain ⟨A, c, e1⟩ := e1
      obtain ⟨_, _, _, h4, h5, h6⟩ := bounds_inv hb
      have h7 : r.2.2 = 0 := by omega
      have h8 : r.2.1 = 0 := by omega
      have h9 : r.1 = 0 := by omega
      refine run (some A) 0 c 0 r e1 hb (Nat.zero_le _) (Nat.le_refl _) ?_
      rw [h7, h8, h9]
      simp only [Nat.zero_mul, Option.map_some, Nat.sub_self]
      have : ∀ q : Prop, [Decidable q] → (if q then some A else some (A.add 0)) = some A := by
        intro q _; split
        · rfl
        · simp [Addr.add]
      rw [this]
      exact .emp A _
    · cases hf
  · rename_i b j n c
    split at hf
    · rename_i l' h' m' hb
      have e1 : ∃ pl, ρ b = some pl ∧ ev X = .slice (some ⟨pl.blk, pl.sh + j, none⟩) n c := by
        generalize ev X = v at hX; cases hX with | slice _ _ _ _ pl hp => exact ⟨pl, hp, rfl⟩
      obtain ⟨pl, hp, e1⟩ := e1
      obtain ⟨_, h2, h3, h4, h5, h6⟩ := bounds_inv hb
      simp only at h2 h3 h4 h5 h6
      have hm' : (if M.isSome then m' else c) = m' := by
        rw [hMm]
        cases mv with
        | none => simp [natOr] at h3; simp [h3]
        | some _ => rfl
      have hlen : n ≤ c ∨ hv.isSome = true := by
        cases hv with
        | some _ => exact .inr rfl
        | none => simp [natOr] at h2; left; omega
      have goal : VRel ρ a (.slice (if m' = l' then some ⟨pl.blk, pl.sh + j, none⟩ else (some (⟨pl.blk, pl.sh + j, none⟩ : Addr)).map (·.add (l' * es))) (h' - l') (m' - l')) := by
        split at hf
        · rename_i he
          obtain rfl := Option.some.inj hf
          rw [if_pos (Nat.eq_of_beq_eq_true he)]
          exact .slice _ _ _ _ pl hp
        · rename_i he
          obtain rfl := Option.some.inj hf
          rw [if_neg (Nat.ne_of_beq_eq_false he)]
          simp only [Option.map_some, add_plain, Nat.add_assoc]
          exact .slice _ _ _ _ pl hp
      refine VOk.of (s := Instr.sliceAt t (ev X) (L.map ev) (HI.map ev) (M.map ev)) (by simp [execOp, ho]) ?_ goal
      have hrb := run_sliceBounds (P := S.P) w true n c c hmh hl hh hm elv ehv emv hb (Nat.le_refl _) (fun _ hHI => by
        subst hHI
        cases hi with
        | none => simp [rdO] at ehv; subst ehv; simp [natOr] at h2; omega
        | some _ => exact hh.elim)
      unfold Instr.sliceAt
      simp only [Sem.run_bind, run_under w ht, Result.andThen_ok]
      rw [e1]
      unfold Instr.slice
      simp only [Sem.run_bind, run_under w ht, Result.andThen_ok, hrb, run_size w hes, Sem.run_pure, hm']
    · cases hf
  · rename_i b j n q
    split at hf
    · cases hf
    · rename_i l' h' m' hb
      have e1 : ∃ pl c, ρ b = some pl ∧ ev X = .slice (some ⟨pl.blk, pl.sh + j, none⟩) n c ∧ pl.sh + j + c * pl.es = pl.sz ∧ n ≤ c ∧ q = pl.es := by
        generalize ev X = v at hX; cases hX with | sliceG _ _ _ c pl hp h1 h2 => exact ⟨pl, c, hp, rfl, h1, h2, rfl⟩
      obtain ⟨pl, c, hp, e1, hsz, hnc, rfl⟩ := e1
      obtain ⟨_, _, h3, h4, h5, h6⟩ := bounds_inv hb
      simp only at h3 h4 h5 h6
      refine run _ n c n (l', h', m') e1 hb hnc (Nat.le_refl _) ?_
      simp only
      rw [hMm]
      split at hf
      · rename_i mm
        simp only [Option.isSome_some, if_true]
        split at hf
        · rename_i he
          obtain rfl := Option.some.inj hf
          rw [if_pos (Nat.eq_of_beq_eq_true he)]
          exact .slice _ _ _ _ pl hp
        · rename_i he
          obtain rfl := Option.some.inj hf
          rw [if_neg (Nat.ne_of_beq_eq_false he)]
          simp only [Option.map_some, add_plain, Nat.add_assoc]
          exact .slice _ _ _ _ pl hp
      · simp only [Option.isSome_none, Bool.false_eq_true, if_false]
        split at hf
        · rename_i hlt
          have hlt' : l' < n := by simpa [Nat.blt_eq] using hlt
          split at hf
          · rename_i hq
            obtain rfl := Nat.eq_of_beq_eq_true hq
            obtain rfl := Option.some.inj hf
            rw [if_neg (by omega)]
            simp only [Option.map_some, add_plain, Nat.add_assoc]
            refine .sliceG _ _ _ _ pl hp ?_ (show h' - l' ≤ c - l' from by omega)
            rw [Nat.sub_mul]
            have : l' * pl.es ≤ c * pl.es := Nat.mul_le_mul_right _ (by omega)
            show pl.sh + (j + l' * pl.es) + (c * pl.es - l' * pl.es) = pl.sz
            omega
          · cases hf
        · rename_i hlt
          have hlt' : ¬ l' < n := fun hc => by
            have : Nat.blt l' n = true := by simpa [Nat.blt_eq] using hc
            rw [hlt] at this; cases this
          have hl' : l' = n := by omega
          have hh' : h' = n := by omega
          split at hf
          · rename_i h0
            have h0' := Nat.eq_of_beq_eq_true h0
            obtain rfl := Option.some.inj hf
            have hA : (if c = l' then (some (⟨pl.blk, pl.sh + j, none⟩ : Addr)) else (some (⟨pl.blk, pl.sh + j, none⟩ : Addr)).map (·.add (l' * es))) = some ⟨pl.blk, pl.sh + j, none⟩ := by
              split
              · rfl
              · simp [h0', add_plain]
            rw [hA, h0', hh', ← hl', h0']
            exact .sliceG _ _ _ _ pl hp (by simpa using hsz) (by omega)
          · obtain rfl := Option.some.inj hf
            rw [hh', hl', Nat.sub_self]
            split
            · exact .emp _ _
            · exact .emp _ _
  · cases hf

end Go.Ai

namespace Go.Ai
open Go

variable {S : Stat} {ρ : Rho} {h : H} {w : World} {tm : TM} {e : Env} {ev : Operand → Value}

theorem cval_rel {v : Value} {a : AVal} (hc : cval v = some a) : VRel ρ a v := by
  unfold cval at hc
  split at hc <;> try (obtain rfl := Option.some.inj hc)
  · exact .bool _
  · exact .int _ _
  · exact .str _
  · exact .nilptr
  · exact .nils
  · exact .nilmap
  · exact .nilfunc
  · exact .nilif
  · rename_i f x y
    split at hc
    · rename_i hxy
      obtain rfl := Option.some.inj hc
      simp only [Bool.and_eq_true, Array.isEmpty_iff] at hxy
      obtain ⟨rfl, rfl⟩ := hxy
      exact .func _ _ [] [] [] [] (.func f) .nil .nil
    · cases hc
  · cases hc
theorem cvals_rel : ∀ {l : List Value} {r : List AVal}, cvals l = some r → VRels ρ r l
  | [], r, hc => by obtain rfl := Option.some.inj hc; exact .nil
  | v :: l, r, hc => by
    simp only [cvals] at hc
    split at hc
    · rename_i a r' ha hr
      obtain rfl := Option.some.inj hc
      exact .cons _ _ _ _ (cval_rel ha) (cvals_rel hr)
    · cases hc
theorem cvals_one : ∀ {l : List Value} {r : List AVal}, cvals l = some r → ∀ v ∈ l, v.oneCell' = true
  | [], _, _, v, hv => by simp at hv
  | u :: l, r, hc, v, hv => by
    simp only [cvals] at hc
    split at hc
    · rename_i a r' ha hr
      rcases List.mem_cons.1 hv with rfl | hv
      · unfold cval at ha
        split at ha <;> first | rfl | cases ha
      · exact cvals_one hr v hv
    · cases hc
theorem cone_rel {v : Value} {a : AVal} (hc : cone v = some a) : VRel ρ a v := by
  unfold cone at hc
  split at hc
  · rename_i cs
    cases hr : cvals cs.toList with
    | none => simp [hr] at hc
    | some r =>
      simp [hr] at hc; subst hc
      have := VRel.agg (ρ := ρ) r cs.toList (cvals_rel hr) (cvals_one hr)
      simpa using this
  · exact cval_rel hc
theorem zeroV_rel {P : Program} {t : TypeId} {z : AVal} (hz : zeroV P t = some z) : ∃ i v, P.info? t = some i ∧ i.zero = some v ∧ VRel ρ z v := by
  unfold zeroV at hz
  split at hz
  · rename_i i hi
    split at hz
    · rename_i v hv; exact ⟨i, v, hi, hv, cone_rel hz⟩
    · cases hz
  · cases hz
theorem run_zero {P : Program} {t : TypeId} {i : TypeInfo} {v : Value} (w : World) (hi : P.info? t = some i) (hv : i.zero = some v) : (zeroValue t).run P w = .ok v w := by
  simp [zeroValue, run_info w hi, hv]
theorem zeroOf_rel {P : Program} {t : TypeId} {z : List AVal} (hz : zeroOf P t = some z) : ∃ i v, P.info? t = some i ∧ i.zero = some v ∧ VRels ρ z v.cells.toList ∧ ∀ u ∈ v.cells.toList, u.oneCell' = true := by
  unfold zeroOf at hz
  split at hz
  · rename_i i hi
    split at hz
    · rename_i v hv; exact ⟨i, v, hi, hv, cvals_rel hz, cvals_one hz⟩
    · cases hz
  · cases hz

theorem run_checkKey {P : Program} {t : TypeId} {kk : KeyK} (w : World) (b : Bool) (v : Value) (hk : keyK P t = some kk) : (Instr.checkKey b 10000 t v).run P w = .ok () w := by
  show (Instr.checkKey b (9999 + 1) t v).run P w = .ok () w
  unfold Instr.checkKey
  unfold keyK at hk
  split at hk
  · rename_i hd; simp only [Sem.run_bind, run_under w hd, Result.andThen_ok]; rfl
  · rename_i hd; simp only [Sem.run_bind, run_under w hd, Result.andThen_ok]; rfl
  · rename_i hd; simp only [Sem.run_bind, run_under w hd, Result.andThen_ok]; rfl
  · cases hk

def keyIx (h : H) (kk : KeyK) (k : AVal) : List (AVal × AVal × Nat) → Option (Option Nat)
  | [] => some none
  | (k', _, _) :: l => match keyEq h kk k k' with
    | none => none
    | some true => some (some 0)
    | some false => match keyIx h kk k l with
      | none => none
      | some none => some none
      | some (some i) => some (some (i + 1))
theorem findA_ix (h : H) (kk : KeyK) (k : AVal) : ∀ (l : List (AVal × AVal × Nat)) (r : Option AVal), findA h kk k l = some r → ∃ i, keyIx h kk k l = some i ∧ r = i.bind fun i => (l[i]?).map (·.2.1)
  | [], r, hf => by obtain rfl := Option.some.inj hf; exact ⟨none, rfl, rfl⟩
  | (k', v, s) :: l, r, hf => by
    simp only [findA] at hf
    simp only [keyIx]
    split at hf
    · cases hf
    · rename_i he
      obtain rfl := Option.some.inj hf
      exact ⟨some 0, by first | rw [he] | rfl, by simp⟩
    · rename_i he
      obtain ⟨i, hi, rfl⟩ := findA_ix h kk k l r hf
      try rw [he]
      cases i with
      | none => exact ⟨none, by simp [hi], rfl⟩
      | some i => exact ⟨some (i + 1), by simp [hi], by simp⟩
theorem updA_ix (h : H) (kk : KeyK) (k v : AVal) (c : Nat) : ∀ (l : List (AVal × AVal × Nat)) (r : List (AVal × AVal × Nat) × Nat), updA h kk k v c l = some r →
    ∃ i, keyIx h kk k l = some i ∧ match i with
      | none => r = (l ++ [(k, v, c)], c + 1)
      | some i => ∃ e, l[i]? = some e ∧ r = (l.set i (k, v, e.2.2), c)
  | [], r, hf => by obtain rfl := Option.some.inj hf; exact ⟨none, rfl, rfl⟩
  | (k', v', s) :: l, r, hf => by
    simp only [updA] at hf
    simp only [keyIx]
    split at hf
    · cases hf
    · rename_i he
      obtain rfl := Option.some.inj hf
      exact ⟨some 0, by first | rw [he] | rfl, (k', v', s), by simp, by simp⟩
    · rename_i he
      split at hf
      · cases hf
      · rename_i l' c' hl
        obtain rfl := Option.some.inj hf
        obtain ⟨i, hi, hr⟩ := updA_ix h kk k v c l _ hl
        try rw [he]
        cases i with
        | none => refine ⟨none, by simp [hi], ?_⟩; simp only at hr ⊢; rw [Prod.mk.injEq] at hr; rw [hr.1, hr.2]; rfl
        | some i =>
          obtain ⟨e, h1, h2⟩ := hr
          refine ⟨some (i + 1), by simp [hi], e, by simpa using h1, ?_⟩
          rw [Prod.mk.injEq] at h2; rw [h2.1, h2.2]; rfl
theorem delA_ix (h : H) (kk : KeyK) (k : AVal) : ∀ (l r : List (AVal × AVal × Nat)), delA h kk k l = some r → ∃ i, keyIx h kk k l = some i ∧ match i with
      | none => r = l
      | some i => i < l.length ∧ r = l.eraseIdx i
  | [], r, hf => by obtain rfl := Option.some.inj hf; exact ⟨none, rfl, rfl⟩
  | (k', v', s) :: l, r, hf => by
    simp only [delA] at hf
    simp only [keyIx]
    split at hf
    · cases hf
    · rename_i he
      obtain rfl := Option.some.inj hf
      exact ⟨some 0, by first | rw [he] | rfl, by simp⟩
    · rename_i he
      split at hf
      · cases hf
      · rename_i l' hl
        obtain rfl := Option.some.inj hf
        obtain ⟨i, hi, hr⟩ := delA_ix h kk k l _ hl
        try rw [he]
        cases i with
        | none => refine ⟨none, by simp [hi], ?_⟩; simp only at hr ⊢; rw [hr]
        | some i => exact ⟨some (i + 1), by simp [hi], by simp at hr ⊢; exact ⟨hr.1, hr.2⟩⟩

theorem findNow_int (kd : IntKind) (q : IntKind) (a : Int) : ∀ {es : List (AVal × AVal × Nat)} {es' : List MapEntry}, EntR ρ es es' → ∀ (n : Nat) (ix : Option Nat), keyIx h .int (.int q a) es = some ix →
    Instr.findNow (.int kd) (.int q a) es' n = some (ix.bind fun i => (es'[i]?).map fun e => (n + i, e.val))
  | _, _, .nil, n, ix, hix => by simp [keyIx] at hix; subst hix; simp [Instr.findNow]
  | _, _, .cons k1 v1 s l k1' v1' l' h1 h2 h3, n, ix, hix => by
    simp only [keyIx, keyEq] at hix
    cases h1 <;> simp only at hix <;> try cases hix
    rename_i q' b
    cases hkq : kEq q q' with
    | false => simp [hkq] at hix
    | true =>
      rw [kEq_eq] at hkq
      obtain rfl : q = q' := of_decide_eq_true hkq
      simp only [kEq_eq, decide_true] at hix
      simp only [Instr.findNow, Instr.sameNow, if_true]
      rw [ieq_eq] at hix
      cases hab : (a == b) with
      | true => rw [hab] at hix; simp only at hix; obtain rfl := Option.some.inj hix; simp
      | false =>
        rw [hab] at hix; simp only at hix ⊢
        split at hix
        · cases hix
        · rename_i hi
          obtain rfl := Option.some.inj hix
          rw [findNow_int kd q a h3 (n + 1) none hi]; rfl
        · rename_i i hi
          obtain rfl := Option.some.inj hix
          rw [findNow_int kd q a h3 (n + 1) (some i) hi]
          simp only [Option.bind_some, List.getElem?_cons_succ]
          rw [show n + 1 + i = n + (i + 1) by omega]
theorem findNow_str (a : ByteArray) : ∀ {es : List (AVal × AVal × Nat)} {es' : List MapEntry}, EntR ρ es es' → ∀ (n : Nat) (ix : Option Nat), keyIx h .str (.str (cstr a)) es = some ix →
    Instr.findNow .string (.string a) es' n = some (ix.bind fun i => (es'[i]?).map fun e => (n + i, e.val))
  | _, _, .nil, n, ix, hix => by simp [keyIx] at hix; subst hix; simp [Instr.findNow]
  | _, _, .cons k1 v1 s l k1' v1' l' h1 h2 h3, n, ix, hix => by
    simp only [keyIx, keyEq] at hix
    cases h1 <;> simp only at hix <;> try cases hix
    rename_i b
    simp only [Instr.findNow, Instr.sameNow]
    have hab' : lEq (cstr a) (cstr b) = (a == b) := by
      have e0 : (a == b) = (a.data == b.data) := by cases a; cases b; rfl
      rw [cstr_toList, cstr_toList, lEq_map, e0, Bool.eq_iff_iff]
      simp only [beq_iff_eq]
      rw [ByteArray.toList_eq, ByteArray.toList_eq]
      exact Array.toList_inj
    rw [hab'] at hix
    cases hab : (a == b) with
    | true => rw [hab] at hix; simp only at hix; obtain rfl := Option.some.inj hix; simp
    | false =>
      rw [hab] at hix; simp only at hix ⊢
      split at hix
      · cases hix
      · rename_i hi
        obtain rfl := Option.some.inj hix
        rw [findNow_str a h3 (n + 1) none hi]; rfl
      · rename_i i hi
        obtain rfl := Option.some.inj hix
        rw [findNow_str a h3 (n + 1) (some i) hi]
        simp only [Option.bind_some, List.getElem?_cons_succ]
        rw [show n + 1 + i = n + (i + 1) by omega]
theorem findAsk_ptr (r : HR S ρ h w) {t el : TypeId} {m : Nat} (hd : S.P.underlying t = some (.pointer el)) (hs : szOf S.P el = some m) (hm : m ≠ 0) {b o : Nat} {pl : Place} (hb : ρ b = some pl) :
    ∀ {es : List (AVal × AVal × Nat)} {es' : List MapEntry}, EntR ρ es es' → ∀ (n : Nat) (ix : Option Nat), keyIx h .ptr (.ptr b o) es = some ix →
    (Instr.findAsking t (.pointer (some ⟨pl.blk, pl.sh + o, none⟩)) es' n).run S.P w = .ok (ix.bind fun i => (es'[i]?).map fun e => (n + i, e.val)) w
  | _, _, .nil, n, ix, hix => by simp [keyIx] at hix; subst hix; simp [Instr.findAsking]
  | _, _, .cons k1 v1 s l k1' v1' l' h1 h2 h3, n, ix, hix => by
    simp only [keyIx, keyEq] at hix
    cases h1 <;> simp only at hix <;> try cases hix
    rename_i b2 o2 p2 hb2
    cases hq : ptrEq h b o b2 o2 with
    | none => rw [hq] at hix; cases hix
    | some q =>
      rw [hq] at hix
      have heq : (Op.equal t (.pointer (some ⟨pl.blk, pl.sh + o, none⟩)) (.pointer (some ⟨p2.blk, p2.sh + o2, none⟩))).run S.P w = .ok q w := by
        refine run_equal hd fun m' => ?_
        unfold Op.equalIn
        simp [run_under w hd, run_size w hs, hm, sameAddr_ok r hb hb2 hq]
      simp only [Instr.findAsking, Sem.run_bind, heq, Result.andThen_ok]
      cases q with
      | true => simp only at hix; obtain rfl := Option.some.inj hix; simp
      | false =>
        simp only [Bool.false_eq_true, if_false]
        simp only at hix
        split at hix
        · cases hix
        · rename_i hi
          obtain rfl := Option.some.inj hix
          rw [findAsk_ptr r hd hs hm hb h3 (n + 1) none hi]; rfl
        · rename_i i hi
          obtain rfl := Option.some.inj hix
          rw [findAsk_ptr r hd hs hm hb h3 (n + 1) (some i) hi]
          simp only [Option.bind_some, List.getElem?_cons_succ]
          rw [show n + 1 + i = n + (i + 1) by omega]

theorem run_findKey (r : HR S ρ h w) {t : TypeId} {kk : KeyK} {k : AVal} {k' : Value} (hk : keyK S.P t = some kk) (hkr : VRel ρ k k') {es : List (AVal × AVal × Nat)} {es' : List MapEntry} (he : EntR ρ es es')
    {ix : Option Nat} (hix : keyIx h kk k es = some ix) :
    (Instr.findKey t k' es').run S.P w = .ok (ix.bind fun i => (es'[i]?).map fun e => (i, e.val)) w := by
  unfold keyK at hk
  unfold Instr.findKey
  cases he with
  | nil =>
    simp [keyIx] at hix; subst hix
    split at hk
    all_goals first | (rename_i hd; simp [run_under w hd, Instr.findNow]; done) | cases hk
  | cons k1 v1 s l k1' v1' l' h1 h2 h3 =>
    have he : EntR ρ ((k1, v1, s) :: l) (⟨k1', v1', s⟩ :: l') := .cons _ _ _ _ _ _ _ h1 h2 h3
    split at hk
    · rename_i kd hd
      obtain rfl := Option.some.inj hk
      simp only [Sem.run_bind, run_under w hd, Result.andThen_ok]
      cases hkr <;> simp only [keyIx, keyEq] at hix <;> try cases hix
      rename_i q a
      have hix' : keyIx h .int (.int q a) ((k1, v1, s) :: l) = some ix := by simp only [keyIx, keyEq]; exact hix
      have := findNow_int kd q a he 0 ix hix'
      simp only [Nat.zero_add] at this
      rw [this]; rfl
    · rename_i hd
      obtain rfl := Option.some.inj hk
      simp only [Sem.run_bind, run_under w hd, Result.andThen_ok]
      cases hkr <;> simp only [keyIx, keyEq] at hix <;> try cases hix
      rename_i a
      have hix' : keyIx h .str (.str (cstr a)) ((k1, v1, s) :: l) = some ix := by simp only [keyIx, keyEq]; exact hix
      have := findNow_str a he 0 ix hix'
      simp only [Nat.zero_add] at this
      rw [this]; rfl
    · rename_i el hd
      cases hs : szOf S.P el with
      | none => simp [hs] at hk
      | some m =>
        simp [hs] at hk
        obtain ⟨hm, rfl⟩ := hk
        simp only [Sem.run_bind, run_under w hd, Result.andThen_ok]
        have hn : Instr.findNow (.pointer el) k' (⟨k1', v1', s⟩ :: l') 0 = none := by simp [Instr.findNow, Instr.sameNow]
        rw [hn]
        cases hkr <;> simp only [keyIx, keyEq] at hix <;> try cases hix
        rename_i b o pl hb
        have hix' : keyIx h .ptr (.ptr b o) ((k1, v1, s) :: l) = some ix := by simp only [keyIx, keyEq]; exact hix
        have := findAsk_ptr r hd hs hm hb he 0 ix hix'
        simpa using this
    · cases hk

end Go.Ai

namespace Go.Ai
open Go

variable {S : Stat} {ρ : Rho} {h : H} {w : World} {tm : TM} {e : Env} {ev : Operand → Value}

theorem cstr_extract (s : ByteArray) (l hi : Nat) : cstr (s.extract l hi) = ((cstr s).take hi).drop l := by
  unfold cstr
  rw [ByteArray.data_extract, Array.toList_extract, List.extract_eq_drop_take, ← List.map_take, ← List.map_drop, List.drop_take]

theorem slcs_ok {o : Oper} {x : Opd} {l hi : Option Opd} {X : Operand} {L HI : Option Operand} {t : TypeId} {a : AVal} (ho : o.op = .slice t X L HI none)
    (ht : S.P.underlying t = some .string)
    (hx : OpdR ρ tm e ev x X) (hl : OpdRO ρ tm e ev l L) (hh : OpdRO ρ tm e ev hi HI) (hf : oSlcs x l hi tm e h = some a) : VOk S ρ w ev o a := by
  unfold oSlcs at hf
  split at hf
  case h_2 => cases hf
  rename_i s hs
  split at hf
  case h_2 => cases hf
  rename_i lv elv
  split at hf
  case h_2 => cases hf
  rename_i hv ehv
  split at hf
  case h_2 => cases hf
  rename_i l' h' m' hb
  obtain rfl := Option.some.inj hf
  obtain ⟨bs, e1, rfl⟩ := (hx _ hs).str_inv
  have hrb := run_sliceBounds (P := S.P) w false bs.size bs.size bs.size (M := none) (m := none) (mv := none) (by simp) hl hh trivial elv ehv rfl (by rw [cstr_length] at hb; exact hb) (Nat.le_refl _) (fun _ _ => Nat.le_refl _)
  refine VOk.of (s := Instr.sliceAt t (ev X) (L.map ev) (HI.map ev) none) (v := .string (bs.extract l' h')) (by simp [execOp, ho]) ?_ (by rw [← cstr_extract]; exact .str _)
  unfold Instr.sliceAt
  simp only [Sem.run_bind, run_under w ht, Result.andThen_ok]
  rw [e1]
  unfold Instr.slice
  simp only [Option.map_none] at hrb
  simp [run_under w ht, hrb]

theorem slca_ok {o : Oper} {x : Opd} {l hi m : Option Opd} {X : Operand} {L HI M : Option Operand} {t el : TypeId} {es n : Nat} {a : AVal} (ho : o.op = .slice t X L HI M)
    (ht : S.P.underlying t = some (.array n el)) (hes : szOf S.P el = some es) (hmh : ¬ (M.isSome = true ∧ HI = none))
    (hx : OpdR ρ tm e ev x X) (hl : OpdRO ρ tm e ev l L) (hh : OpdRO ρ tm e ev hi HI) (hm : OpdRO ρ tm e ev m M) (hf : oSlca n es x l hi m tm e h = some a) : VOk S ρ w ev o a := by
  unfold oSlca at hf
  split at hf
  case h_2 => cases hf
  rename_i b j hxv
  split at hf
  case h_2 => cases hf
  rename_i lv elv
  split at hf
  case h_2 => cases hf
  rename_i hv ehv
  split at hf
  case h_2 => cases hf
  rename_i mv emv
  split at hf
  case h_2 => cases hf
  rename_i l' h' m' hb
  obtain ⟨pl, hp, e1⟩ := (hx _ hxv).ptr_inv
  have hMm : M.isSome = mv.isSome := by
    cases m <;> cases M <;> simp only [OpdRO] at hm <;> try exact hm.elim
    · simp [rdO] at emv; subst emv; rfl
    · simp only [rdO] at emv; split at emv
      · cases emv
      · obtain rfl := Option.some.inj emv; rfl
  obtain ⟨_, h2, h3, h4, h5, h6⟩ := bounds_inv hb
  simp only at h2 h3 h4 h5 h6
  have hm' : (if M.isSome then m' else n) = m' := by
    rw [hMm]
    cases mv with
    | none => simp [natOr] at h3; simp [h3]
    | some _ => rfl
  have hrb := run_sliceBounds (P := S.P) w false n n n hmh hl hh hm elv ehv emv hb (Nat.le_refl _) (fun _ _ => Nat.le_refl _)
  have goal : VRel ρ a (.slice (some (if m' = l' then ⟨pl.blk, pl.sh + j, none⟩ else (⟨pl.blk, pl.sh + j, none⟩ : Addr).add (l' * es))) (h' - l') (m' - l')) := by
    split at hf
    · rename_i he
      obtain rfl := Option.some.inj hf
      rw [if_pos (Nat.eq_of_beq_eq_true he)]
      exact .slice _ _ _ _ pl hp
    · rename_i he
      obtain rfl := Option.some.inj hf
      rw [if_neg (Nat.ne_of_beq_eq_false he)]
      simp only [add_plain, Nat.add_assoc]
      exact .slice _ _ _ _ pl hp
  refine VOk.of (s := Instr.sliceAt t (ev X) (L.map ev) (HI.map ev) (M.map ev)) (by simp [execOp, ho]) ?_ goal
  unfold Instr.sliceAt
  simp only [Sem.run_bind, run_under w ht, Result.andThen_ok]
  rw [e1]
  simp only [Instr.sureAddr, Sem.run_pure, Result.andThen_ok, hrb, run_size w hes, hm']

theorem okV_rel {ok b : Bool} {v : AVal} {v' : Value} (hv : VRel ρ v v') : VRel ρ (okV ok v b) (if ok then .tuple #[v', .bool b] else v') := by
  cases ok with
  | true => exact .tup _ [_, _] (.cons _ _ _ _ hv (.cons _ _ _ _ (.bool _) .nil))
  | false => exact hv

theorem EntR.get : ∀ {es : List (AVal × AVal × Nat)} {es' : List MapEntry}, EntR ρ es es' → ∀ (i : Nat) (x : AVal × AVal × Nat), es[i]? = some x →
    ∃ k v, es'[i]? = some ⟨k, v, x.2.2⟩ ∧ VRel ρ x.1 k ∧ VRel ρ x.2.1 v
  | _, _, .nil, i, x, hx => by simp at hx
  | _, _, .cons k1 v1 s l k1' v1' l' h1 h2 h3, 0, x, hx => by simp at hx; subst hx; exact ⟨k1', v1', by simp, h1, h2⟩
  | _, _, .cons k1 v1 s l k1' v1' l' h1 h2 h3, i + 1, x, hx => by
    simp at hx; obtain ⟨k, v, a, b⟩ := h3.get i x hx; exact ⟨k, v, by simpa using a, b⟩
theorem EntR.length : ∀ {es : List (AVal × AVal × Nat)} {es' : List MapEntry}, EntR ρ es es' → es.length = es'.length
  | _, _, .nil => rfl
  | _, _, .cons _ _ _ _ _ _ _ _ _ h3 => by simp [h3.length]

theorem run_getMap {P : Program} {w : World} {b : Nat} {es : Array MapEntry} {c : Nat} (hw : w.heap[b]? = some (.map es c)) : (getObj b).run P w = .ok (.map es c) w := by
  simp only [getObj, Sem.run, hw]

theorem HR.map (r : HR S ρ h w) {b : Nat} {pl : Place} {es : List (AVal × AVal × Nat)} {c : Nat} (hb : ρ b = some pl) (hg : h.get b = some (.map es c)) :
    ∃ es', w.heap[pl.blk]? = some (.map es' c) ∧ EntR ρ es es'.toList := by
  obtain ⟨o, ho, es', rfl, h2⟩ := r.obj b pl _ hb hg
  exact ⟨es', ho, h2⟩

theorem look_ok {o : Oper} {x i : Opd} {X I : Operand} {t kt el : TypeId} {kk : KeyK} {z : AVal} {ok : Bool} {a : AVal} (r : HR S ρ h w) (ho : o.op = .lookup t X I ok)
    (ht : S.P.underlying t = some (.map kt el)) (hk : keyK S.P kt = some kk) (hz : zeroV S.P el = some z)
    (hx : OpdR ρ tm e ev x X) (hi : OpdR ρ tm e ev i I) (hf : oLook kk z ok x i tm e h = some a) : VOk S ρ w ev o a := by
  obtain ⟨ti, zv, hti, htz, hzr⟩ := zeroV_rel (ρ := ρ) hz
  have hzero := run_zero (P := S.P) w hti htz
  unfold oLook at hf
  split at hf
  · rename_i hxv
    have e1 : ev X = .map none := by have hX := hx _ hxv; generalize ev X = v at hX; cases hX; rfl
    split at hf
    case h_2 => cases hf
    rename_i k hkv
    obtain rfl := Option.some.inj hf
    refine VOk.of (s := Instr.lookup t (ev X) (ev I) ok) (by simp [execOp, ho]) ?_ (okV_rel hzr)
    have hfk := run_findKey r hk (hi _ hkv) EntR.nil (ix := none) rfl
    unfold Instr.lookup
    simp only [Sem.run_bind, run_under w ht, Result.andThen_ok]
    rw [e1]
    simp only [Sem.run_bind, Result.andThen_ok, Sem.run_pure, run_checkKey w _ (ev I) hk, hfk, Option.bind_none, hzero]
  · rename_i b hxv
    have e1 : ∃ pl, ρ b = some pl ∧ ev X = .map (some pl.blk) := by have hX := hx _ hxv; generalize ev X = v at hX; cases hX; exact ⟨_, by assumption, rfl⟩
    obtain ⟨pl, hp, e1⟩ := e1
    split at hf
    case h_2 => cases hf
    rename_i k hkv
    split at hf
    case h_2 => cases hf
    rename_i es c hg
    obtain ⟨es', hw, her⟩ := r.map hp hg
    have hgo : ∀ (q : Option AVal), findA h kk k es = some q → ∃ rr, (Instr.findKey kt (ev I) es'.toList).run S.P w = .ok rr w ∧
        (match q with | some v => ∃ j v', rr = some (j, v') ∧ VRel ρ v v' | none => rr = none) := by
      intro q hq
      obtain ⟨ix, hix, rfl⟩ := findA_ix h kk k es q hq
      refine ⟨_, run_findKey r hk (hi _ hkv) her hix, ?_⟩
      cases ix with
      | none => rfl
      | some j =>
        simp only [Option.bind_some]
        cases hj : es[j]? with
        | none =>
          simp only [Option.map_none]
          have : es'.toList[j]? = none := by
            rw [List.getElem?_eq_none_iff] at hj ⊢; rw [← her.length]; exact hj
          rw [this]; rfl
        | some y =>
          obtain ⟨k', v', h1, _, h2⟩ := her.get j y hj
          simp only [Option.map_some]
          exact ⟨j, v', by rw [h1]; rfl, h2⟩
    have fin : ∀ (v : AVal) (v' : Value) (bb : Bool) (rr : Option (Nat × Value)), (Instr.findKey kt (ev I) es'.toList).run S.P w = .ok rr w →
        ((rr = none ∧ v' = zv ∧ bb = false) ∨ (∃ j, rr = some (j, v') ∧ bb = true)) → VRel ρ v v' → a = okV ok v bb → VOk S ρ w ev o a := by
      intro v v' bb rr hrun hrr hvr ha
      subst ha
      refine VOk.of (s := Instr.lookup t (ev X) (ev I) ok) (by simp [execOp, ho]) ?_ (okV_rel hvr)
      unfold Instr.lookup
      simp only [Sem.run_bind, run_under w ht, Result.andThen_ok]
      rw [e1]
      simp only [Sem.run_bind, run_getMap hw, Result.andThen_ok, Sem.run_pure, run_checkKey w _ (ev I) hk, hrun]
      rcases hrr with ⟨rfl, rfl, rfl⟩ | ⟨j, rfl, rfl⟩
      · simp only [Sem.run_bind, hzero, Result.andThen_ok, Sem.run_pure]
      · simp only [Sem.run_bind, Sem.run_pure, Result.andThen_ok]
    split at hf
    · rename_i v hq
      obtain ⟨rr, hrun, j, v', rfl, hvr⟩ := hgo _ hq
      exact fin v v' true _ hrun (.inr ⟨j, rfl, rfl⟩) hvr (Option.some.inj hf).symm
    · rename_i hq
      obtain ⟨rr, hrun, rfl⟩ := hgo _ hq
      exact fin z zv false _ hrun (.inl ⟨rfl, rfl, rfl⟩) hzr (Option.some.inj hf).symm
    · cases hf
  · cases hf

theorem len_of {o : Oper} {X : Operand} {c : Call} {t : TypeId} {a : AVal} {v : Value} (ho : o.op = .call c) (hb : c.callee = .builtin .len) (hargs : c.args = #[X]) (hts : c.argTypes.toList = [t])
    (h1 : (Builtin.len_ #[t] o.type #[ev X]).run S.P w = .ok v w) (h2 : VRel ρ a v) : VOk S ρ w ev o a := by
  have hts' : c.argTypes = #[t] := by rw [← Array.toArray_toList (xs := c.argTypes), hts]
  exact ⟨v, by simp [execOp, ho, resolve, hb, hargs, hts', invoke, builtin, h1], h2⟩
theorem lens_ok {o : Oper} {x : Opd} {X : Operand} {c : Call} {t : TypeId} {a : AVal} (ho : o.op = .call c) (hb : c.callee = .builtin .len) (hargs : c.args = #[X]) (hts : c.argTypes.toList = [t])
    (ht : S.P.underlying t = some .string) (hx : OpdR ρ tm e ev x X) (hf : oLenS x tm e h = some a) : VOk S ρ w ev o a := by
  unfold oLenS at hf
  split at hf
  case h_2 => cases hf
  rename_i s hs
  obtain rfl := Option.some.inj hf
  obtain ⟨bs, e1, rfl⟩ := (hx _ hs).str_inv
  refine len_of ho hb hargs hts (v := goInt bs.size) ?_ (by rw [cstr_length]; exact .int _ _)
  unfold Builtin.len_
  rw [e1]
  simp [run_under w ht]
theorem lenl_ok {o : Oper} {x : Opd} {X : Operand} {c : Call} {t el : TypeId} {a : AVal} (ho : o.op = .call c) (hb : c.callee = .builtin .len) (hargs : c.args = #[X]) (hts : c.argTypes.toList = [t])
    (ht : S.P.underlying t = some (.slice el)) (hx : OpdR ρ tm e ev x X) (hf : oLenL x tm e h = some a) : VOk S ρ w ev o a := by
  have run : ∀ (A : Option Addr) (n c' : Nat), ev X = .slice A n c' → a = .int .i64 (.ofNat n) → VOk S ρ w ev o a := by
    intro A n c' e1 ha
    subst ha
    refine len_of ho hb hargs hts (v := goInt n) ?_ (.int _ _)
    unfold Builtin.len_
    rw [e1]
    simp [run_under w ht]
  unfold oLenL at hf
  split at hf
  · rename_i b i n c' hs
    have hX := hx _ hs
    generalize hv : ev X = v at hX
    cases hX with
    | slice => exact run _ _ _ hv (Option.some.inj hf).symm
    | sliceG => exact run _ _ _ hv (Option.some.inj hf).symm
  · rename_i hs
    have hX := hx _ hs
    generalize hv : ev X = v at hX
    cases hX
    exact run _ _ _ hv (Option.some.inj hf).symm
  · rename_i hs
    have hX := hx _ hs
    generalize hv : ev X = v at hX
    cases hX
    exact run _ _ _ hv (Option.some.inj hf).symm
  · cases hf
theorem VRel.map_inv {b : Nat} {v : Value} (hr : VRel ρ (.map b) v) : ∃ pl, ρ b = some pl ∧ v = .map (some pl.blk) := by
  cases hr with | map _ pl hb => exact ⟨pl, hb, rfl⟩
theorem lenm_ok {o : Oper} {x : Opd} {X : Operand} {c : Call} {t k el : TypeId} {a : AVal} (r : HR S ρ h w) (ho : o.op = .call c) (hb : c.callee = .builtin .len) (hargs : c.args = #[X]) (hts : c.argTypes.toList = [t])
    (ht : S.P.underlying t = some (.map k el)) (hx : OpdR ρ tm e ev x X) (hf : oLenM x tm e h = some a) : VOk S ρ w ev o a := by
  unfold oLenM at hf
  split at hf
  · rename_i hs
    obtain rfl := Option.some.inj hf
    have hX := hx _ hs
    generalize hv : ev X = v at hX
    cases hX
    refine len_of ho hb hargs hts (v := goInt 0) ?_ (.int _ _)
    unfold Builtin.len_
    rw [hv]
    simp [run_under w ht]
  · rename_i b hs
    obtain ⟨pl, hp, e1⟩ := (hx _ hs).map_inv
    split at hf
    case h_2 => cases hf
    rename_i es cl hg
    obtain rfl := Option.some.inj hf
    obtain ⟨es', hw, her⟩ := r.map hp hg
    refine len_of ho hb hargs hts (v := goInt es'.size) ?_ (by rw [her.length, Array.length_toList]; exact .int _ _)
    unfold Builtin.len_
    rw [e1]
    simp [run_under w ht, run_getMap hw]
  · cases hf

end Go.Ai

namespace Go.Ai
open Go

variable {S : Stat} {ρ : Rho} {h : H} {w : World} {tm : TM} {e : Env} {ev : Operand → Value}

theorem mm_run (P : Program) (w : World) (mx : Bool) : ∀ (l : List AVal) (a : AVal) (v : Value) (l' : List Value) (r : AVal), VRel ρ a v → VRels ρ l l' → mmA mx a l = some r →
    ∃ u, (l'.foldlM (if mx then Builtin.max2 else Builtin.min2) v).run P w = .ok u w ∧ VRel ρ r u
  | [], a, v, _, r, ha, .nil, hf => by
    unfold mmA at hf
    obtain rfl := Option.some.inj hf
    exact ⟨v, by simp, ha⟩
  | b :: l, a, v, _, r, ha, .cons _ _ b' l' hb hl, hf => by
    unfold mmA at hf
    split at hf
    · exact absurd ‹b :: l = []› (by simp)
    · rename_i k x k' y l0 he
      obtain ⟨rfl, rfl⟩ := List.cons.inj he
      obtain rfl := ha.int_inv
      obtain rfl := hb.int_inv
      split at hf
      · cases hf
      rename_i hk
      rw [kEq_eq] at hk
      have hk := of_decide_eq_true hk
      subst hk
      cases mx with
      | true =>
        simp only [ilt_eq] at hf
        obtain ⟨u, h1, h2⟩ := mm_run P w true l _ (.int k (if y > x then y else x)) l' r (by
          by_cases hlt : x < y <;> simp [hlt] <;> exact .int _ _) hl hf
        refine ⟨u, ?_, h2⟩
        simp only [if_true] at h1 ⊢
        simp only [List.foldlM_cons, Sem.run_bind, Builtin.max2, Sem.run_pure, Result.andThen_ok]
        exact h1
      | false =>
        simp only [ilt_eq] at hf
        obtain ⟨u, h1, h2⟩ := mm_run P w false l _ (.int k (if y < x then y else x)) l' r (by
          by_cases hlt : y < x <;> simp [hlt] <;> exact .int _ _) hl hf
        refine ⟨u, ?_, h2⟩
        simp only [Bool.false_eq_true, if_false] at h1 ⊢
        simp only [List.foldlM_cons, Sem.run_bind, Builtin.min2, Sem.run_pure, Result.andThen_ok]
        exact h1
    · cases hf

theorem mm_ok {o : Oper} {mx : Bool} {x : Opd} {l : List Opd} {X : Operand} {L : List Operand} {c : Call} {a : AVal} (ho : o.op = .call c) (hb : c.callee = .builtin (if mx then .max else .min))
    (hargs : c.args.toList = X :: L) (hx : OpdR ρ tm e ev x X) (hl : OpdsR ρ tm e ev l L) (hf : oMm mx x l tm e h = some a) : VOk S ρ w ev o a := by
  unfold oMm at hf
  split at hf
  case h_2 => cases hf
  rename_i x' hx'
  split at hf
  case h_2 => cases hf
  rename_i l' hl'
  obtain ⟨u, h1, h2⟩ := mm_run S.P w mx l' x' (ev X) (L.map ev) a (hx _ hx') (hl.rd _ hl') hf
  have ha : (c.args.map ev).toList = ev X :: L.map ev := by rw [Array.toList_map, hargs]; rfl
  refine ⟨u, ?_, h2⟩
  cases mx with
  | true =>
    simp only [if_true] at hb h1
    simp [execOp, ho, resolve, hb, invoke, builtin, Builtin.max_, hargs, h1]
  | false =>
    simp only [Bool.false_eq_true, if_false] at hb h1
    simp [execOp, ho, resolve, hb, invoke, builtin, Builtin.min_, hargs, h1]

theorem usd_ok {o : Oper} {x : Opd} {X : Operand} {c : Call} {a : AVal} (ho : o.op = .call c) (hb : c.callee = .builtin .unsafeSliceData) (hargs : c.args = #[X])
    (hx : OpdR ρ tm e ev x X) (hf : oUsd x tm e h = some a) : VOk S ρ w ev o a := by
  have key : ∀ v, (Builtin.unsafeSliceData_ c.argTypes o.type #[ev X]).run S.P w = .ok v w → VRel ρ a v → VOk S ρ w ev o a := by
    intro v h1 h2
    exact ⟨v, by simp [execOp, ho, resolve, hb, hargs, invoke, builtin, h1], h2⟩
  unfold oUsd at hf
  split at hf
  · rename_i hs
    obtain rfl := Option.some.inj hf
    have hX := hx _ hs
    generalize hv : ev X = v at hX
    cases hX
    refine key (.pointer none) ?_ .nilptr
    rw [hv]; rfl
  · rename_i b i n c' hs
    have hX := hx _ hs
    have run : ∀ (pl : Place) (cc : Nat), ρ b = some pl → ev X = .slice (some ⟨pl.blk, pl.sh + i, none⟩) n cc → cc ≠ 0 → a = .ptr b i → VOk S ρ w ev o a := by
      intro pl cc hp hv hc ha
      subst ha
      refine key _ ?_ (.ptr b i pl hp)
      rw [hv]
      show Sem.run _ (if cc ≠ 0 then _ else _) w = _
      rw [if_pos hc]; rfl
    split at hf
    · cases hf
    rename_i m
    generalize hv : ev X = v at hX
    split at hf
    · cases hf
    · rename_i hc
      cases hX with
      | slice _ _ _ cc pl hp => exact run pl cc hp hv (fun h0 => hc (by rw [h0])) (Option.some.inj hf).symm
      | sliceG _ _ _ cc pl hp _ hle => exact run pl cc hp hv (by omega) (Option.some.inj hf).symm
  · cases hf

theorem cap_ok {o : Oper} {x : Opd} {X : Operand} {c : Call} {t el : TypeId} {a : AVal} (ho : o.op = .call c) (hb : c.callee = .builtin .cap) (hargs : c.args = #[X]) (hts : c.argTypes.toList = [t])
    (ht : S.P.underlying t = some (.slice el)) (hx : OpdR ρ tm e ev x X) (hf : oCap x tm e h = some a) : VOk S ρ w ev o a := by
  have hts' : c.argTypes = #[t] := by rw [← Array.toArray_toList (xs := c.argTypes), hts]
  have run : ∀ (A : Option Addr) (n c' : Nat), ev X = .slice A n c' → a = .int .i64 (.ofNat c') → VOk S ρ w ev o a := by
    intro A n c' e1 ha
    subst ha
    have h1 : (Builtin.cap_ #[t] o.type #[ev X]).run S.P w = .ok (goInt c') w := by
      unfold Builtin.cap_
      rw [e1]
      simp [run_under w ht]
    exact ⟨goInt c', by simp [execOp, ho, resolve, hb, hargs, hts', invoke, builtin, h1], .int _ _⟩
  unfold oCap at hf
  split at hf
  · rename_i b i n c' hs
    have hX := hx _ hs
    generalize hv : ev X = v at hX
    cases hX with
    | slice => exact run _ _ _ hv (Option.some.inj hf).symm
  · rename_i hs
    have hX := hx _ hs
    generalize hv : ev X = v at hX
    cases hX
    exact run _ _ _ hv (Option.some.inj hf).symm
  · cases hf

theorem lastN_eq : ∀ (l : List Nat), lastN l = l.getLast?
  | [] => rfl
  | [a] => rfl
  | a :: b :: l => by rw [lastN, lastN_eq (b :: l)]; simp; simp
theorem entA_ok (s : Nat) : ∀ {es : List (AVal × AVal × Nat)} {es' : List MapEntry} {q : AVal × AVal}, EntR ρ es es' → entA s es = some q →
    ∃ me, es'.find? (·.born == s) = some me ∧ VRel ρ q.1 me.key ∧ VRel ρ q.2 me.val
  | _, _, _, .nil, hf => by cases hf
  | _, _, _, .cons k v s1 l k' v' l' h1 h2 h3, hf => by
    unfold entA at hf
    split at hf
    · rename_i hs
      obtain rfl := Option.some.inj hf
      exact ⟨⟨k', v', s1⟩, by simp [(Nat.eq_of_beq_eq_true hs).symm], h1, h2⟩
    · rename_i hs
      obtain ⟨me, a, b⟩ := entA_ok s h3 hf
      refine ⟨me, ?_, b⟩
      rw [List.find?_cons]
      have : (s1 == s) = false := by simpa using (Ne.symm (Nat.ne_of_beq_eq_false hs))
      simp only [this]
      exact a
theorem HR.iter (r : HR S ρ h w) {b : Nat} {pl : Place} {m : Option Nat} {since last : Nat} {seen : List Nat} (hb : ρ b = some pl) (hg : h.get b = some (.iter m since seen last)) :
    ∃ m' seen', w.heap[pl.blk]? = some (.mapIter m' since seen' last) ∧ OptR ρ m m' ∧ seen'.toList = seen ∧ pl.sh = 0 := by
  obtain ⟨o, ho, m', seen', rfl, h1, h2⟩ := r.obj b pl _ hb hg
  exact ⟨m', seen', ho, h1, h2⟩
theorem run_getObj {P : Program} {w : World} {b : Nat} {o : Obj} (hw : w.heap[b]? = some o) (hc : ∀ c e f, o ≠ .cells c e f) : (getObj b).run P w = .ok o w := by
  simp only [getObj, Sem.run, hw]
  try (cases o <;> first | rfl | exact absurd rfl (hc _ _ _))
theorem ent_ok {o : Oper} {x : Opd} {X : Operand} {a : AVal} (r : HR S ρ h w) (ho : o.op = .entry X) (hx : OpdR ρ tm e ev x X) (hf : oEnt x tm e h = some a) : VOk S ρ w ev o a := by
  unfold oEnt at hf
  split at hf
  case h_2 => cases hf
  rename_i b hb
  obtain ⟨pl, hp, hv⟩ := (hx _ hb).ptr_inv
  split at hf
  case h_2 => cases hf
  rename_i m since seen last hg
  obtain ⟨m', seen', hw, hm, hs, h0⟩ := r.iter hp hg
  split at hf
  case h_2 => cases hf
  rename_i es clock hgm
  cases hm with
  | some _ pm hpm =>
    obtain ⟨es', hwm, her⟩ := r.map hpm hgm
    split at hf
    case h_2 => cases hf
    rename_i hcl
    split at hf
    case h_2 => cases hf
    rename_i s hl
    split at hf
    case h_2 => cases hf
    rename_i k v hent
    obtain rfl := Option.some.inj hf
    obtain ⟨me, h1, h2, h3⟩ := entA_ok s her hent
    rw [lastN_eq, ← hs, Array.getLast?_toList] at hl
    refine VOk.of (s := Instr.entry (ev X)) (v := .tuple #[me.key, me.val]) (by simp [execOp, ho]) ?_ (.tup _ [_, _] (.cons _ _ _ _ h2 (.cons _ _ _ _ h3 .nil)))
    unfold Instr.entry
    rw [hv, h0]
    have e1 := run_getObj (P := S.P) hw (by simp)
    have e2 := run_getObj (P := S.P) hwm (by simp)
    have hc : clock = last := Nat.eq_of_beq_eq_true hcl
    rw [Array.find?_toList] at h1
    simp [e1, hl, e2, hc, h1]

theorem run_shape {P : Program} {w : World} {b : Nat} {c : Array Value} {el : Nat} {fr : Nat × Nat} (hh : w.heap[b]? = some (.cells c el fr)) : (shape b).run P w = .ok (some (el, c.size)) w := by
  simp [shape, Sem.run, shape_of_heap hh]
theorem run_viewAt {P : Program} {w : World} {b : Nat} {c : Array Value} {el : Nat} {fr : Nat × Nat} (hh : w.heap[b]? = some (.cells c el fr)) : (viewAt b).run P w = .ok none w := by
  simp [viewAt, run_shape hh]
theorem run_seenAt {P : Program} {w : World} {b o : Nat} {c : Array Value} {el : Nat} {fr : Nat × Nat} (hh : w.heap[b]? = some (.cells c el fr)) : (Conv.seenAt ⟨b, o, none⟩).run P w = .ok ⟨b, o, none⟩ w := by
  simp [Conv.seenAt, run_viewAt hh]
theorem run_cellsIn {P : Program} {w : World} {b : Nat} {c : Array Value} {el : Nat} {fr : Nat × Nat} (hh : w.heap[b]? = some (.cells c el fr)) : (cellsIn b).run P w = .ok (some c.size) w := by
  simp [cellsIn, run_shape hh]

theorem p2u_ok {o : Oper} {x : Opd} {X : Operand} {s d el : TypeId} {n : Nat} {a : AVal} (r : HR S ρ h w) (ho : o.op = .convert s d X) (hs : S.P.underlying s = some (.pointer el)) (hd : S.P.underlying d = some .unsafePointer)
    (hn : szOf S.P el = some n) (h0 : n ≠ 0) (hx : OpdR ρ tm e ev x X) (hf : oP2u x tm e h = some a) : VOk S ρ w ev o a := by
  unfold oP2u at hf
  split at hf
  · rename_i b i hb
    obtain ⟨pl, hp, hv⟩ := (hx _ hb).ptr_inv
    split at hf
    case h_2 => cases hf
    rename_i cs el' es fz hg
    obtain ⟨c, lo, hi, hw, hsz, hle, hcs, hsh, hsz', _⟩ := r.cells hp hg
    split at hf
    case h_2 => cases hf
    rename_i hlt
    obtain rfl := Option.some.inj hf
    have hlt := Nat.le_of_ble_eq_true hlt
    refine VOk.of (s := convert s d (ev X)) (v := .pointer (some ⟨pl.blk, pl.sh + i, none⟩)) (by simp [execOp, ho]) ?_ (.ptr _ _ pl hp)
    unfold convert
    simp only [Sem.run_bind, run_under w hs, run_under w hd, Result.andThen_ok]
    rw [hv]
    simp only [Conv.unsafePointer, Sem.run_bind, run_under w hs, run_under w hd, Result.andThen_ok, run_seenAt hw, run_cellsIn hw, run_size w hn]
    have : ¬ (pl.sh + i ≥ c.size) := by omega
    simp [h0, this]
  · rename_i hb
    obtain rfl := Option.some.inj hf
    have hX := hx _ hb
    generalize hv : ev X = v at hX
    cases hX
    refine VOk.of (s := convert s d (ev X)) (v := .pointer none) (by simp [execOp, ho]) ?_ .nilptr
    unfold convert
    simp only [Sem.run_bind, run_under w hs, run_under w hd, Result.andThen_ok]
    rw [hv]
    simp [Conv.unsafePointer, run_under w hs, run_under w hd]
  · cases hf

theorem u2p_ok {o : Oper} {x : Opd} {X : Operand} {s d u : TypeId} {n : Nat} {a : AVal} (r : HR S ρ h w) (ho : o.op = .convert s d X) (hs : S.P.underlying s = some .unsafePointer) (hd : S.P.underlying d = some (.pointer u))
    (hn : szOf S.P u = some n) (h0 : n ≠ 0) (hla : liesAt S.P S.P.depth u 1 0 u 1 = true) (hx : OpdR ρ tm e ev x X) (hf : oU2p u n x tm e h = some a) : VOk S ρ w ev o a := by
  unfold oU2p at hf
  split at hf
  · rename_i b hb
    obtain ⟨pl, hp, hv⟩ := (hx _ hb).ptr_inv
    split at hf
    case h_2 => cases hf
    rename_i cs el' es fz hg
    obtain ⟨c, lo, hi, hw, hsz, hle, hcs, hsh, hsz', _⟩ := r.cells hp hg
    split at hf
    case h_2 => cases hf
    rename_i hc
    obtain rfl := Option.some.inj hf
    simp only [Bool.and_eq_true] at hc
    obtain rfl := Nat.eq_of_beq_eq_true hc.1
    have hlen := Nat.eq_of_beq_eq_true hc.2
    refine VOk.of (s := convert s d (ev X)) (v := .pointer (some ⟨pl.blk, pl.sh + 0, none⟩)) (by simp [execOp, ho]) ?_ (.ptr _ _ pl hp)
    unfold convert
    simp only [Sem.run_bind, run_under w hs, run_under w hd, Result.andThen_ok]
    rw [hv]
    have hva : (variablesAt ⟨pl.blk, pl.sh + 0, none⟩ el' 1).run S.P w = .ok true w := by
      unfold variablesAt
      have e1 : c.size / S.P.cellsOf el' = 1 := by rw [cellsOf_sz hn, hsz, hsz', hlen]; exact Nat.div_self (by omega)
      simp [shape_of_heap hw, e1, hsh, hla]
    simp only [Conv.unsafePointer, Sem.run_bind, run_under w hs, run_under w hd, Result.andThen_ok, run_seenAt hw, run_size w hn, hva]
    simp
  · rename_i hb
    obtain rfl := Option.some.inj hf
    have hX := hx _ hb
    generalize hv : ev X = v at hX
    cases hX
    refine VOk.of (s := convert s d (ev X)) (v := .pointer none) (by simp [execOp, ho]) ?_ .nilptr
    unfold convert
    simp only [Sem.run_bind, run_under w hs, run_under w hd, Result.andThen_ok]
    rw [hv]
    simp [Conv.unsafePointer, run_under w hs, run_under w hd]
  · cases hf

end Go.Ai

namespace Go.Ai
open Go

variable {S : Stat} {ρ : Rho} {h : H} {w : World} {tm : TM} {e : Env} {ev : Operand → Value}

inductive PartsR (ρ : Rho) (tm : TM) (e : Env) (ev : Operand → Value) (place : Nat → Option (Nat × Nat)) : List (Nat × Nat × Opd) → List (Nat × Operand) → Prop
  | nil : PartsR ρ tm e ev place [] []
  | cons (o n : Nat) (x : Opd) (l : List (Nat × Nat × Opd)) (i : Nat) (X : Operand) (L : List (Nat × Operand)) : place i = some (o, n) → OpdR ρ tm e ev x X → PartsR ρ tm e ev place l L →
      PartsR ρ tm e ev place ((o, n, x) :: l) ((i, X) :: L)

theorem fill_ok {place : Nat → Option (Nat × Nat)} : ∀ {ps : List (Nat × Nat × Opd)} {PS : List (Nat × Operand)} (cs : List AVal) (cells : Array Value) (r : List AVal), PartsR ρ tm e ev place ps PS →
    VRels ρ cs cells.toList → (∀ v ∈ cells.toList, v.oneCell' = true) → fillA tm e cs ps = some r →
    ∃ cells', Instr.fill place cells (PS.map fun x => (x.1, ev x.2)) = some cells' ∧ VRels ρ r cells'.toList ∧ (∀ v ∈ cells'.toList, v.oneCell' = true) ∧ cells'.size = cells.size
  | _, _, cs, cells, r, .nil, hv, h1, hf => by
    obtain rfl := Option.some.inj hf
    exact ⟨cells, rfl, hv, h1, rfl⟩
  | _, _, cs, cells, r, .cons o n x l i X L hp hx hl, hv, h1, hf => by
    simp only [fillA] at hf
    split at hf
    · cases hf
    rename_i a ha
    split at hf
    · cases hf
    rename_i vs hvs
    split at hf
    · cases hf
    rename_i hn
    have hn := Nat.eq_of_beq_eq_true hn
    split at hf
    · cases hf
    rename_i cs' hcs'
    obtain ⟨q1, q2⟩ := (hx _ ha).cells hvs
    have hlen := q1.length
    rw [overAt_eq] at hcs'
    split at hcs'
    case isFalse => cases hcs'
    rename_i hle
    obtain rfl := Option.some.inj hcs'
    have hcl : cs.length = cells.size := by rw [hv.length, Array.length_toList]
    have hvl : (ev X).cells.size = vs.length := by rw [hlen, Array.length_toList]
    obtain ⟨g1, g2⟩ := Great.foldl_set o (ev X).cells.toList 0 cells
    have hget : ∀ k : Nat, (((ev X).cells.toList.zipIdx 0).foldl (fun cs (x : Value × Nat) => cs.setIfInBounds (o + x.2) x.1) cells).toList[k]? =
        if o ≤ k ∧ k < o + vs.length then (ev X).cells.toList[k - o]? else cells.toList[k]? := by
      intro k
      rw [Array.getElem?_toList, g2 k]
      simp only [Nat.add_zero, Array.length_toList, hvl, Array.getElem?_toList]
      by_cases hk : o ≤ k ∧ k < o + vs.length
      · rw [if_pos hk, if_pos ⟨hk.1, hk.2, by omega⟩]
      · rw [if_neg hk, if_neg (by omega)]
    have hrel : VRels ρ (cs.take o ++ vs ++ cs.drop (o + vs.length)) (((ev X).cells.toList.zipIdx 0).foldl (fun cs (x : Value × Nat) => cs.setIfInBounds (o + x.2) x.1) cells).toList := by
      refine VRels.of_get (by simp only [List.length_append, List.length_take, List.length_drop, Array.length_toList, g1]; omega) fun k y hy => ?_
      rw [hget]
      by_cases hk : o ≤ k ∧ k < o + vs.length
      · rw [if_pos hk]
        rw [List.getElem?_append_left (by simp; omega), List.getElem?_append_right (by simp; omega)] at hy
        rw [show k - (cs.take o).length = k - o by simp; omega] at hy
        exact q1.get _ _ hy
      · rw [if_neg hk]
        by_cases hk' : k < o
        · rw [List.getElem?_append_left (by simp; omega), List.getElem?_append_left (by simp; omega), List.getElem?_take, if_pos hk'] at hy
          exact hv.get _ _ hy
        · rw [List.getElem?_append_right (by simp; omega), List.getElem?_drop] at hy
          rw [show o + vs.length + (k - (cs.take o ++ vs).length) = k by simp; omega] at hy
          exact hv.get _ _ hy
    have hone : ∀ v ∈ (((ev X).cells.toList.zipIdx 0).foldl (fun cs (x : Value × Nat) => cs.setIfInBounds (o + x.2) x.1) cells).toList, v.oneCell' = true := by
      intro v hv'
      obtain ⟨k, hk⟩ := List.getElem?_of_mem hv'
      rw [hget] at hk
      split at hk
      · exact q2 v (List.mem_of_getElem? hk)
      · exact h1 v (List.mem_of_getElem? hk)
    obtain ⟨cells', r1, r2, r3, r4⟩ := fill_ok _ _ r hl hrel hone hf
    refine ⟨cells', ?_, r2, r3, by rw [r4, g1]⟩
    rw [← r1]
    simp only [List.map_cons]
    rw [Instr.fill]
    simp only [hp, hvl, hn]
    rw [if_neg (by simp; omega)]
    congr 1
    rw [← Array.foldl_toList, Array.toList_zipIdx]

theorem mapM_places {P : Program} : ∀ (fs : List Field), (fs.all fun f => (szOf P f.type).isSome) = true →
    (fs.mapM fun f => (P.info? f.type).map fun i => (f.offset, i.size)) = some (fs.map fun f => (f.offset, P.cellsOf f.type))
  | [], _ => by simp
  | f :: fs, hf => by
    simp only [List.all_cons, Bool.and_eq_true] at hf
    obtain ⟨n, hn⟩ := Option.isSome_iff_exists.1 hf.1
    have ih := mapM_places fs hf.2
    have hc := cellsOf_sz hn
    unfold szOf at hn
    cases hi : P.info? f.type with
    | none => simp [hi] at hn
    | some i =>
      simp [hi] at hn
      simp [List.mapM_cons, hi, ih, hc, hn]

theorem build_ok {o : Oper} {t : TypeId} {PS : Array (Nat × Operand)} {ps : List (Nat × Nat × Opd)} {z : List AVal} {a : AVal} {place : Nat → Option (Nat × Nat)} (ho : o.op = .build t PS)
    (hz : zeroOf S.P t = some z) (hpl : (∃ fs, S.P.underlying t = some (.struct fs) ∧ (fs.toList.all fun f => (szOf S.P f.type).isSome) = true ∧ place = fun i => (fs[i]?).map fun f => (f.offset, S.P.cellsOf f.type)) ∨
      (∃ n el es, S.P.underlying t = some (.array n el) ∧ szOf S.P el = some es ∧ place = fun i => some (i * es, es)))
    (hp : PartsR ρ tm e ev place ps PS.toList) (hf : oBuild z ps tm e h = some a) : VOk S ρ w ev o a := by
  obtain ⟨i, zv, hi, hzv, hzr, hz1⟩ := zeroOf_rel (ρ := ρ) hz
  unfold oBuild at hf
  split at hf
  case h_2 => cases hf
  rename_i cs hcs
  obtain rfl := Option.some.inj hf
  obtain ⟨cells', h1, h2, h3, _⟩ := fill_ok _ _ _ hp hzr hz1 hcs
  have e2 : (PS.map fun (x : Nat × Operand) => (x.1, ev x.2)).toList = PS.toList.map fun x => (x.1, ev x.2) := by simp
  refine VOk.of (s := Instr.build t (PS.map fun (x : Nat × Operand) => (x.1, ev x.2))) (v := .agg cells') (by simp [execOp, ho]) ?_ (by have := VRel.agg (ρ := ρ) cs cells'.toList h2 h3; simpa using this)
  refine run_build w t _ cells' ?_
  unfold Program.built
  rw [e2]
  rcases hpl with ⟨fs, ht, hfs, rfl⟩ | ⟨n, el, es, ht, hes, rfl⟩
  · simp only [hi, ht, hzv, mapM_places _ hfs]
    rw [← h1]
    congr 1
    funext i
    simp
  · have hie : ∃ ie, S.P.info? el = some ie ∧ ie.size = es := by
      unfold szOf at hes
      cases hie : S.P.info? el with
      | none => simp [hie] at hes
      | some ie => simp [hie] at hes; exact ⟨ie, rfl, hes⟩
    obtain ⟨ie, hie, rfl⟩ := hie
    simp only [hi, ht, hzv, hie, h1]

theorem toBytes_rel : ∀ {cs : List AVal} {vs : List Value} {s : List Nat}, VRels ρ cs vs → toBytes cs = some s → vs = s.map (fun (n : Nat) => Value.int .u8 (n : Int)) ∧ ∀ n ∈ s, n < 256
  | _, _, s, .nil, hf => by
    obtain rfl := Option.some.inj hf
    simp
  | _, _, s, .cons a l a' l' ha hl, hf => by
    unfold toBytes at hf
    split at hf
    · exact absurd ‹_ = []› (by simp)
    · rename_i n l0 he
      obtain ⟨rfl, rfl⟩ := List.cons.inj he
      split at hf
      case h_2 => cases hf
      rename_i hlt
      have hlt : n < 256 := Nat.le_of_ble_eq_true hlt
      split at hf
      case h_2 => cases hf
      rename_i r hr
      obtain rfl := Option.some.inj hf
      obtain ⟨rfl, h2⟩ := toBytes_rel hl hr
      obtain rfl := ha.int_inv
      refine ⟨rfl, fun m hm => ?_⟩
      rcases List.mem_cons.1 hm with rfl | hm
      · exact hlt
      · exact h2 m hm
    · cases hf

theorem cstr_ofNats (s : List Nat) (hs : ∀ n ∈ s, n < 256) (b : ByteArray) (hb : b.data.toList = s.map fun n => UInt8.ofNat n) : cstr b = s := by
  unfold cstr
  rw [hb, List.map_map]
  conv => rhs; rw [← List.map_id s]
  apply List.map_congr_left
  intro n hn
  have := hs n hn
  simp [UInt8.toNat_ofNat']
  omega

theorem run_loadCells_heap {P : Program} {w w1 : World} (hh : w1.heap = w.heap) (b o : Nat) (vs : List Value) (hc : World.cellsFrom w b o vs) (n : Nat) (hn : vs.length = n) : (loadCells ⟨b, o, none⟩ n).run P w1 = .ok vs.toArray w1 := by
  refine run_loadCells P w1 b o vs (fun i v hv => ?_) n hn
  have := hc i v hv
  unfold World.cell? at this ⊢
  rw [hh]; exact this

def SliceR (P : Program) (ρ : Rho) (w : World) (es : Nat) (v : Value) (cs : List AVal) : Prop :=
  ∃ (A : Option Addr) (n c : Nat), v = .slice A n c ∧ cs.length = n * es ∧ ∃ vs, VRels ρ cs vs ∧ (∀ u ∈ vs, u.oneCell' = true) ∧
      (match A with | none => n = 0 | some A => ∀ w1, w1.heap = w.heap → (loadCells A (n * es)).run P w1 = .ok vs.toArray w1) ∧
      (match A with | none => True | some A => ∀ m, m ≤ n * es → (loadCells A m).run P w = .ok (vs.take m).toArray w)
theorem sliceCells_rel (r : HR S ρ h w) {es : Nat} {a : AVal} {v : Value} {cs : List AVal} (hv : VRel ρ a v) (hf : sliceCells h es a = some cs) : SliceR S.P ρ w es v cs := by
  unfold sliceCells at hf
  split at hf
  · obtain rfl := Option.some.inj hf
    cases hv
    exact ⟨none, 0, 0, rfl, by simp, [], .nil, by simp, rfl, trivial⟩
  · obtain rfl := Option.some.inj hf
    cases hv
    rename_i A c
    refine ⟨some A, 0, c, rfl, by simp, [], .nil, by simp, by simp [loadCells, loadCellsFrom], ?_⟩
    intro m hm
    rw [Nat.zero_mul] at hm
    obtain rfl : m = 0 := Nat.le_zero.1 hm
    simp [loadCells, loadCellsFrom]
  · rename_i b i n c
    have run : ∀ (pl : Place) (c' : Nat), ρ b = some pl → v = .slice (some ⟨pl.blk, pl.sh + i, none⟩) n c' → SliceR S.P ρ w es v cs := by
      intro pl c' hp hv'
      obtain ⟨hl, vs, hvs, hcf, h1⟩ := r.cellsR hp hf
      refine ⟨some ⟨pl.blk, pl.sh + i, none⟩, n, c', hv', hl, vs, hvs, h1, fun w1 hh => run_loadCells_heap hh _ _ vs hcf _ (by rw [← hvs.length]; exact hl), fun m hm => ?_⟩
      have hvl := hvs.length
      refine run_loadCells S.P w _ _ (vs.take m) (fun i v hv => hcf i v ?_) m (by rw [List.length_take]; rw [hl] at hvl; exact Nat.min_eq_left (Nat.le_trans hm (Nat.le_of_eq hvl)))
      rw [List.getElem?_take] at hv
      split at hv
      · exact hv
      · cases hv
    cases hv with
    | slice _ _ _ c' pl hp => exact run pl c' hp rfl
    | sliceG _ _ _ c' pl hp => exact run pl c' hp rfl
  · cases hf

theorem b2s_ok {o : Oper} {x : Opd} {X : Operand} {s d el : TypeId} {a : AVal} (r : HR S ρ h w) (ho : o.op = .convert s d X) (hs : S.P.underlying s = some (.slice el)) (hel : S.P.underlying el = some (.int .u8)) (hd : S.P.underlying d = some .string)
    (hx : OpdR ρ tm e ev x X) (hf : oB2s x tm e h = some a) : VOk S ρ w ev o a := by
  unfold oB2s at hf
  split at hf
  case h_2 => cases hf
  rename_i y hy
  split at hf
  case h_2 => cases hf
  rename_i cs hcs
  split at hf
  case h_2 => cases hf
  rename_i st hst
  obtain rfl := Option.some.inj hf
  obtain ⟨A, n, c, hv, hlen, vs, hvs, h1, hA, _⟩ := sliceCells_rel r (hx _ hy) hcs
  obtain ⟨rfl, hlt⟩ := toBytes_rel hvs hst
  have key : ∀ b : ByteArray, (Conv.bytesToString (.slice A n c)).run S.P w = .ok (.string b) w → cstr b = st → VOk S ρ w ev o (.str st) := by
    intro b h1 h2
    refine VOk.of (s := convert s d (ev X)) (v := .string b) (by simp [execOp, ho]) ?_ (h2 ▸ .str b)
    rw [hv, run_convert_bytes_string w s d el A n c hs hel hd, h1]
  cases A with
  | none =>
    simp only at hA
    subst hA
    have : st = [] := by
      have := hvs.length
      simp only [Nat.zero_mul] at hlen
      rw [hlen] at this
      simpa using this.symm
    subst this
    exact key .empty (by simp [Conv.bytesToString]) rfl
  | some A =>
    simp only [Nat.mul_one] at hA
    have hA' : (loadCells A n).run S.P w = .ok ((st.map Int.ofNat).map (Value.int .u8)).toArray w := by
      rw [hA w rfl]; simp only [List.map_map]; rfl
    have hrun := run_bytesToString (P := S.P) w A n c (st.map Int.ofNat) hA'
    rw [foldl_push_bytes] at hrun
    refine key _ hrun (cstr_ofNats st hlt _ ?_)
    simp only [Array.toList_append, List.map_map]
    rfl
end Go.Ai

namespace Go.Ai
open Go

variable {S : Stat} {ρ : Rho} {h : H} {w : World} {tm : TM} {e : Env} {ev : Operand → Value}

def NxR (ρ : Rho) (a : AVal) (nx : Next) : Prop := (∃ v, nx = .value v ∧ VRel ρ a v) ∨ (nx = .skip ∧ a = .tup [])
def HOk (S : Stat) (ρ : Rho) (h : H) (w : World) (ev : Operand → Value) (o : Oper) (a : AVal) (h' : H) : Prop :=
  ∃ nx w' ρ', (execOp ev o).run S.P w = .ok nx w' ∧ NxR ρ' a nx ∧ HR S ρ' h' w' ∧ Ext ρ h w ρ' h' w'
theorem HOk.of {o : Oper} {a : AVal} {h' : H} {s : Sem Value} {v : Value} {w' : World} {ρ' : Rho} (he : execOp ev o = (do pure (.value (← s)))) (hr : s.run S.P w = .ok v w') (hv : VRel ρ' a v)
    (r : HR S ρ' h' w') (x : Ext ρ h w ρ' h' w') : HOk S ρ h w ev o a h' :=
  ⟨.value v, w', ρ', by rw [he]; simp [hr], .inl ⟨v, rfl, hv⟩, r, x⟩
theorem HOk.ofU {o : Oper} {h' : H} {s : Sem Unit} {w' : World} {ρ' : Rho} (he : execOp ev o = (do s; pure .skip)) (hr : s.run S.P w = .ok () w')
    (r : HR S ρ' h' w') (x : Ext ρ h w ρ' h' w') : HOk S ρ h w ev o (.tup []) h' :=
  ⟨.skip, w', ρ', by rw [he]; simp [hr], .inr ⟨rfl, rfl⟩, r, x⟩

theorem HR.upd (r : HR S ρ h w) {b : Nat} {pl : Place} {x0 x : AObj} {o : Obj} (hb : ρ b = some pl) (hg : h.get b = some x0) (hro : ¬ isRO x0) (hx : ObjR S ρ x pl o) {w' : World}
    (hw' : ∀ i, w'.heap[i]? = if i = pl.blk then some o else w.heap[i]?) (hos : w'.os = w.os) (hout : w'.output = w.output) :
    HR S ρ (h.put b x) w' ∧ Ext ρ h w ρ (h.put b x) w' := by
  have hlt := (r.bound _ _ hb).2
  have hsize : w'.heap.size = w.heap.size := by
    apply Nat.le_antisymm
    · rcases Nat.lt_or_ge w.heap.size w'.heap.size with h' | h'
      · have := hw' w.heap.size
        rw [if_neg (by omega), Array.getElem?_eq_none (Nat.le_refl _)] at this
        rw [Array.getElem?_eq_none_iff] at this; exact this
      · exact h'
    · rcases Nat.lt_or_ge w'.heap.size w.heap.size with h' | h'
      · have := hw' w'.heap.size
        rw [Array.getElem?_eq_none (Nat.le_refl _)] at this
        split at this
        · cases this
        · exact (Array.getElem?_eq_none_iff.1 this.symm)
      · exact h'
  refine ⟨⟨?_, ?_, ?_, ?_⟩, ⟨Rho.le_refl ρ, by rw [nx_put]; omega, by omega, hos, hout, ?_, ?_, ?_, ?_⟩⟩
  · intro b' p hb'
    rw [nx_put, hsize]; exact r.bound _ _ hb'
  · intro b' p y hb' hy
    rw [get_put] at hy
    by_cases e : b = b'
    · subst e
      rw [if_pos rfl] at hy
      obtain rfl := Option.some.inj hy
      obtain rfl : pl = p := Option.some.inj (hb.symm.trans hb')
      exact ⟨o, by rw [hw', if_pos rfl], hx⟩
    · rw [if_neg e] at hy
      obtain ⟨o', ho', hr⟩ := r.obj _ _ _ hb' hy
      refine ⟨o', ?_, hr⟩
      rw [hw', if_neg]
      · exact ho'
      · intro eb
        exact hro (r.inj b b' pl p _ _ hb hb' hg hy e eb.symm).1
  · intro b1 b2 p1 p2 y1 y2 hb1 hb2 hy1 hy2 hne he
    rw [get_put] at hy1 hy2
    by_cases e1 : b = b1
    · subst e1
      rw [if_neg hne] at hy2
      obtain rfl : pl = p1 := Option.some.inj (hb.symm.trans hb1)
      exact absurd (r.inj b b2 pl p2 _ _ hb hb2 hg hy2 hne he).1 hro
    · rw [if_neg e1] at hy1
      by_cases e2 : b = b2
      · subst e2
        obtain rfl : pl = p2 := Option.some.inj (hb.symm.trans hb2)
        exact absurd (r.inj b1 b p1 pl _ _ hb1 hb hy1 hg hne he).2 hro
      · rw [if_neg e2] at hy2
        exact r.inj b1 b2 p1 p2 y1 y2 hb1 hb2 hy1 hy2 hne he
  · intro b' y hy
    rw [get_put] at hy
    rw [nx_put]
    split at hy
    · rename_i e; subst e; exact r.live _ _ hg
    · exact r.live _ _ hy
  · intro cb _ hn
    rw [hw', if_neg]
    rintro rfl
    exact hn ⟨b, pl, _, hb, hg, hro, rfl⟩
  · rintro cb ⟨b', p, y, hb', hy, hro', rfl⟩
    rw [get_put] at hy
    split at hy
    · rename_i e; subst e
      exact .inl ⟨b, p, _, hb', hg, hro, rfl⟩
    · exact .inl ⟨b', p, y, hb', hy, hro', rfl⟩
  · rintro cb ⟨b', p, y, hb', hy, rfl⟩
    rw [get_put] at hy
    split at hy
    · rename_i e; subst e
      exact .inl ⟨b, p, _, hb', hg, rfl⟩
    · exact .inl ⟨b', p, y, hb', hy, rfl⟩
  · exact fun _ _ hb' => .inl hb'
theorem run_setObj {P : Program} {w : World} {b : Nat} {o o' : Obj} (hw : w.heap[b]? = some o) (hc : ∀ c e f, o ≠ .cells c e f) :
    (setObj b o').run P w = .ok () { w with heap := w.heap.setIfInBounds b o' } := by
  simp only [setObj, Sem.run, hw]
  try (cases o <;> first | rfl | exact absurd rfl (hc _ _ _))
theorem setObj_get {w : World} {b : Nat} {o o' : Obj} (hw : w.heap[b]? = some o) (i : Nat) :
    ({ w with heap := w.heap.setIfInBounds b o' } : World).heap[i]? = if i = b then some o' else w.heap[i]? := by
  have hlt : b < w.heap.size := (Array.getElem?_eq_some_iff.1 hw).1
  simp only [Array.getElem?_setIfInBounds]
  by_cases e : i = b
  · subst e; simp [hlt]
  · rw [if_neg (fun e' => e e'.symm), if_neg e]

theorem HOk.new {o : Oper} {s : Sem Value} {v : Value} {cs : List AVal} {el es : Nat} {kd : BKind} {vs rest : List Value} {a : AVal} (r : HR S ρ h w) (he : execOp ev o = (do pure (.value (← s))))
    (hv : VRels ρ cs vs) (h1 : ∀ v ∈ vs, v.oneCell' = true) (hk : kd = .own → rest = []) (hr : s.run S.P w = .ok v (World.alloc w (.cells (vs ++ rest).toArray el)))
    (hvr : ∀ pl, pl = (⟨w.heap.size, 0, vs.length + rest.length, es⟩ : Place) → VRel (ρ.with h.nx pl) a v) : HOk S ρ h w ev o a (h.new (.cells cs el es kd false)) := by
  obtain ⟨pl, hp, r1, x1⟩ := r.newCells cs el es kd vs hv h1 rest hk
  exact HOk.of he hr (hvr pl hp) r1 x1

def NewOk (S : Stat) (ρ : Rho) (w : World) (ev : Operand → Value) (o : Oper) (a : AVal) (N : Nat) (x : AObj) : Prop :=
  ∃ obj sz es v w', (execOp ev o).run S.P w = .ok (.value v) w' ∧ w'.heap = (World.alloc w obj).heap ∧ w'.os = w.os ∧ w'.output = w.output ∧
    (∀ ρ', ρ.le ρ' → ObjR S ρ' x ⟨w.heap.size, 0, sz, es⟩ obj) ∧ ∀ ρ' pl, pl = (⟨w.heap.size, 0, sz, es⟩ : Place) → ρ' N = some pl → VRel ρ' a v
theorem NewOk.of {o : Oper} {s : Sem Value} {v : Value} {cs : List AVal} {el es : Nat} {kd : BKind} {vs rest : List Value} {a : AVal} {N : Nat} (he : execOp ev o = (do pure (.value (← s))))
    (hv : VRels ρ cs vs) (h1 : ∀ v ∈ vs, v.oneCell' = true) (hk : kd = .own → rest = []) (hr : s.run S.P w = .ok v (World.alloc w (.cells (vs ++ rest).toArray el)))
    (hvr : ∀ ρ' pl, pl = (⟨w.heap.size, 0, vs.length + rest.length, es⟩ : Place) → ρ' N = some pl → VRel ρ' a v) : NewOk S ρ w ev o a N (.cells cs el es kd false) := by
  refine ⟨.cells (vs ++ rest).toArray el, _, es, v, _, by rw [he]; simp [hr], rfl, rfl, rfl, fun ρ' hle => ?_, hvr⟩
  have hl := hv.length
  refine ⟨(vs ++ rest).toArray, 0, 0, rfl, by simp, by simp; omega, ?_, ?_⟩
  · intro i a hi
    obtain ⟨v, hv', hr⟩ := hv.get i a hi
    have hlt : i < vs.length := (List.getElem?_eq_some_iff.1 hv').1
    refine ⟨v, ?_, h1 v (List.mem_of_getElem? hv'), hr.mono hle⟩
    simp [List.getElem?_append_left hlt, hv']
  · cases kd with
    | own => simp [hk rfl, FzR]; omega
    | grow => simp [FzR]
    | ro => trivial
theorem HR.sameW (r : HR S ρ h w) {w' : World} (hh : w'.heap = w.heap) (hos : w'.os = w.os) (hout : w'.output = w.output) : HR S ρ h w' ∧ Ext ρ h w ρ h w' := by
  refine ⟨⟨?_, ?_, r.inj, r.live⟩, ⟨Rho.le_refl ρ, Nat.le_refl _, by rw [hh]; omega, hos, hout, fun _ _ _ => by rw [hh], fun _ hi => .inl hi, fun _ hi => .inl hi, fun _ _ hi => .inl hi⟩⟩
  · intro b pl hb; rw [hh]; exact r.bound _ _ hb
  · intro b pl x hb hx; rw [hh]; exact r.obj _ _ _ hb hx
theorem NewOk.hok {o : Oper} {a : AVal} {x : AObj} (n : NewOk S ρ w ev o a h.nx x) (r : HR S ρ h w) : HOk S ρ h w ev o a (h.new x) := by
  obtain ⟨obj, sz, es, v, w', hr, e1, e2, e3, ho, hvr⟩ := n
  obtain ⟨r1, x1⟩ := r.alloc x obj ⟨w.heap.size, 0, sz, es⟩ rfl (ho _ (r.le_with _))
  obtain ⟨r2, x2⟩ := r1.sameW (w' := w') e1 e2 e3
  exact ⟨.value v, _, _, hr, .inl ⟨v, rfl, hvr _ _ rfl (Rho.with_self _ _ _)⟩, r2, x1.trans x2⟩

theorem box_new {o : Oper} {x : Opd} {X : Operand} {el es : Nat} {a : AVal} {h' : H} (ho : o.op = .box el X) (hx : OpdR ρ tm e ev x X) (hf : oBox el es x tm e h = .ok a h') : ∃ x, h' = h.new x ∧ NewOk S ρ w ev o a h.nx x := by
  unfold oBox at hf
  split at hf
  case h_2 => cases hf
  rename_i y hy
  split at hf
  case h_2 => cases hf
  rename_i cs hcs
  obtain ⟨h1, h2⟩ := (hx _ hy).cells hcs
  cases hf
  refine ⟨_, rfl, NewOk.of (rest := []) (s := Instr.box el (ev X)) (v := .pointer (some ⟨w.heap.size, 0, none⟩)) (by simp [execOp, ho]) h1 h2 (fun _ => rfl) ?_ ?_⟩
  · simp [Instr.box, newVar, newRow]
  · intro ρ' pl hp hN
    have := VRel.ptr (ρ := ρ') h.nx 0 pl hN
    rw [hp] at this
    exact this

theorem box_ok {o : Oper} {x : Opd} {X : Operand} {el es : Nat} {a : AVal} {h' : H} (r : HR S ρ h w) (ho : o.op = .box el X) (hx : OpdR ρ tm e ev x X) (hf : oBox el es x tm e h = .ok a h') : HOk S ρ h w ev o a h' :=
  let ⟨_, e1, n⟩ := box_new ho hx hf
  e1 ▸ n.hok r

theorem alloc_new {o : Oper} {t : TypeId} {es : Nat} {z : List AVal} {a : AVal} {h' : H} (ho : o.op = .alloc t) (hz : zeroOf S.P t = some z) (hf : oAlloc t es z tm e h = .ok a h') : ∃ x, h' = h.new x ∧ NewOk S ρ w ev o a h.nx x := by
  obtain ⟨i, zv, hi, hzv, hzr, hz1⟩ := zeroOf_rel (ρ := ρ) hz
  cases hf
  refine ⟨_, rfl, NewOk.of (rest := []) (s := Instr.alloc t true (.tuple #[])) (v := .pointer (some ⟨w.heap.size, 0, none⟩)) (by simp [execOp, ho]) hzr hz1 (fun _ => rfl) ?_ ?_⟩
  · simp [Instr.alloc, newVar, newRow, run_zero w hi hzv]
  · intro ρ' pl hp hN
    have := VRel.ptr (ρ := ρ') h.nx 0 pl hN
    rw [hp] at this
    exact this

theorem alloc_ok {o : Oper} {t : TypeId} {es : Nat} {z : List AVal} {a : AVal} {h' : H} (r : HR S ρ h w) (ho : o.op = .alloc t) (hz : zeroOf S.P t = some z) (hf : oAlloc t es z tm e h = .ok a h') : HOk S ρ h w ev o a h' :=
  let ⟨_, e1, n⟩ := alloc_new ho hz hf
  e1 ▸ n.hok r

theorem range_rep (z : Array Value) : ∀ n, (List.range (n * z.size)).map (fun i => z[i % z.size]!) = (List.replicate n z.toList).flatten
  | 0 => by simp
  | n + 1 => by
    rw [Nat.add_mul, Nat.one_mul, List.range_add, List.map_append, range_rep z n, List.map_map]
    have : List.map ((fun i => z[i % z.size]!) ∘ fun x => n * z.size + x) (List.range z.size) = z.toList := by
      apply List.ext_getElem?
      intro k
      rw [List.getElem?_map]
      by_cases hk : k < z.size
      · rw [List.getElem?_range hk]
        simp only [Option.map_some, Function.comp]
        rw [Nat.add_comm, Nat.mul_comm, Nat.add_mul_mod_self_left, Nat.mod_eq_of_lt hk]
        simp [hk]
      · rw [List.getElem?_eq_none (by simpa using hk), List.getElem?_eq_none (by simpa using hk)]
        rfl
    rw [this]
    have e : ∀ (l : List Value) m, (List.replicate m l).flatten ++ l = (List.replicate (m + 1) l).flatten := by
      intro l m
      rw [List.replicate_succ', List.flatten_append]; simp
    exact e _ _
theorem range_rep' (z : Array Value) (n s : Nat) (hs : z.size = s) : ((Array.range (n * s)).map (fun i => z[i % z.size]!)).toList = (List.replicate n z.toList).flatten := by
  subst hs
  rw [Array.toList_map, Array.toList_range, range_rep]
theorem repl_eq (n : Nat) (z : List AVal) : repl n z = (List.replicate n z).flatten := by
  unfold repl
  split
  · rename_i v
    induction n with
    | zero => rfl
    | succ n ih => rw [List.replicate_succ, List.replicate_succ, List.flatten_cons, ← ih]; rfl
  · rfl
theorem VRels.rep {l : List AVal} {l' : List Value} (hl : VRels ρ l l') : ∀ n, VRels ρ (List.replicate n l).flatten (List.replicate n l').flatten
  | 0 => .nil
  | n + 1 => by simp only [List.replicate_succ, List.flatten_cons]; exact hl.append (hl.rep n)
theorem rep_one {l : List Value} (hl : ∀ v ∈ l, v.oneCell' = true) (n : Nat) : ∀ v ∈ (List.replicate n l).flatten, v.oneCell' = true := by
  intro v hv
  obtain ⟨l', h1, h2⟩ := List.mem_flatten.1 hv
  obtain rfl := (List.mem_replicate.1 h1).2
  exact hl v h2

theorem bsl_new {o : Oper} {t el : TypeId} {n es : Nat} {PS : Array (Nat × Operand)} {ps : List (Nat × Nat × Opd)} {z : List AVal} {a : AVal} {h' : H} (ho : o.op = .buildSlice t n PS)
    (ht : S.P.underlying t = some (.slice el)) (hes : szOf S.P el = some es) (hz : zeroOf S.P el = some z) (hzl : z.length = es) (hsm : n * es ≤ 2 ^ 24)
    (hp : PartsR ρ tm e ev (fun i => some (i * es, es)) ps PS.toList) (hf : oBsl el es n z ps tm e h = .ok a h') : ∃ x, h' = h.new x ∧ NewOk S ρ w ev o a h.nx x := by
  obtain ⟨i, zv, hi, hzv, hzr, hz1⟩ := zeroOf_rel (ρ := ρ) hz
  unfold oBsl at hf
  split at hf
  case h_2 => cases hf
  rename_i cs hcs
  cases hf
  have hzs : zv.cells.size = es := by rw [← hzl, hzr.length, Array.length_toList]
  have hrow1 := range_rep' zv.cells n es hzs
  obtain ⟨cells', h1, h2, h3, h4⟩ := fill_ok (repl n z) _ cs hp (by rw [repl_eq, hrow1]; exact hzr.rep n) (by rw [hrow1]; exact rep_one hz1 n) hcs
  have e2 : (PS.map fun (x : Nat × Operand) => (x.1, ev x.2)).toList = PS.toList.map fun x => (x.1, ev x.2) := by simp
  rw [← e2] at h1
  refine ⟨_, rfl, NewOk.of (rest := []) (s := Instr.buildSlice t n (PS.map fun (x : Nat × Operand) => (x.1, ev x.2))) (v := .slice (some ⟨w.heap.size, 0, none⟩) n n) (by simp [execOp, ho]) h2 h3 (fun _ => rfl) ?_ ?_⟩
  · by_cases h0 : n * es = 0
    · have hr0 : (Array.range (n * es)).map (fun i => zv.cells[i % zv.cells.size]!) = #[] := by rw [h0]; simp
      rw [hr0] at h1
      unfold Instr.buildSlice
      simp only [Sem.run_bind, run_under w ht, Result.andThen_ok, run_size w hes]
      rw [if_neg (by omega)]
      have hr1 : ∀ f : Nat → Value, (Array.range 0).map f = #[] := fun _ => by simp
      simp only [h0, if_true, Sem.run_bind, Sem.run_pure, Result.andThen_ok, hr1, h1]
      simp [newRow]
    · obtain ⟨ie, hie, hsz⟩ : ∃ ie, S.P.info? el = some ie ∧ ie.size = es := by
        unfold szOf at hes
        cases hie : S.P.info? el with
        | none => simp [hie] at hes
        | some ie => simp [hie] at hes; exact ⟨ie, rfl, hes⟩
      obtain rfl : i = ie := by rw [hi] at hie; exact Option.some.inj hie
      subst hsz
      have := run_buildSlice w t el n _ cells' i zv ht hi hzv (by omega) h0 h1
      simpa using this
  · intro ρ' pl hp hN
    have := VRel.slice (ρ := ρ') h.nx 0 n n pl hN
    rw [hp] at this
    exact this
theorem bsl_ok {o : Oper} {t el : TypeId} {n es : Nat} {PS : Array (Nat × Operand)} {ps : List (Nat × Nat × Opd)} {z : List AVal} {a : AVal} {h' : H} (r : HR S ρ h w) (ho : o.op = .buildSlice t n PS)
    (ht : S.P.underlying t = some (.slice el)) (hes : szOf S.P el = some es) (hz : zeroOf S.P el = some z) (hzl : z.length = es) (hsm : n * es ≤ 2 ^ 24)
    (hp : PartsR ρ tm e ev (fun i => some (i * es, es)) ps PS.toList) (hf : oBsl el es n z ps tm e h = .ok a h') : HOk S ρ h w ev o a h' :=
  let ⟨_, e1, n⟩ := bsl_new ho ht hes hz hzl hsm hp hf
  e1 ▸ n.hok r

end Go.Ai
