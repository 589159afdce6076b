import Derived.Test.YtnljeinfkkeofaaGreatDoorL2
import Derived.Test.YtnljeinfkkeofaaGreatDoorProg
/- Slots that hold nothing yet. -/
namespace Go.Proofs.YtnljeinfkkeofaaGreatDoor
open Go Go.Ai
noncomputable section
abbrev FF := FnFact Tryz.prog
def pd0 : TM := []
def pd1 : TM := [.tup []]
def pd2 : TM := [.tup [], .tup []]
def pd3 : TM := [.tup [], .tup [], .tup []]
def pd4 : TM := [.tup [], .tup [], .tup [], .tup []]
def pd5 : TM := [.tup [], .tup [], .tup [], .tup [], .tup []]
def pd6 : TM := [.tup [], .tup [], .tup [], .tup [], .tup [], .tup []]
def pd7 : TM := [.tup [], .tup [], .tup [], .tup [], .tup [], .tup [], .tup []]
def pd8 : TM := [.tup [], .tup [], .tup [], .tup [], .tup [], .tup [], .tup [], .tup []]
def pd9 : TM := [.tup [], .tup [], .tup [], .tup [], .tup [], .tup [], .tup [], .tup [], .tup []]
def pd10 : TM := [.tup [], .tup [], .tup [], .tup [], .tup [], .tup [], .tup [], .tup [], .tup [], .tup []]
def pd11 : TM := [.tup [], .tup [], .tup [], .tup [], .tup [], .tup [], .tup [], .tup [], .tup [], .tup [], .tup []]
def pd12 : TM := [.tup [], .tup [], .tup [], .tup [], .tup [], .tup [], .tup [], .tup [], .tup [], .tup [], .tup [], .tup []]
def pd13 : TM := [.tup [], .tup [], .tup [], .tup [], .tup [], .tup [], .tup [], .tup [], .tup [], .tup [], .tup [], .tup [], .tup []]
def pd14 : TM := [.tup [], .tup [], .tup [], .tup [], .tup [], .tup [], .tup [], .tup [], .tup [], .tup [], .tup [], .tup [], .tup [], .tup []]
def pd15 : TM := [.tup [], .tup [], .tup [], .tup [], .tup [], .tup [], .tup [], .tup [], .tup [], .tup [], .tup [], .tup [], .tup [], .tup [], .tup []]
def pd16 : TM := [.tup [], .tup [], .tup [], .tup [], .tup [], .tup [], .tup [], .tup [], .tup [], .tup [], .tup [], .tup [], .tup [], .tup [], .tup [], .tup []]
def pd17 : TM := [.tup [], .tup [], .tup [], .tup [], .tup [], .tup [], .tup [], .tup [], .tup [], .tup [], .tup [], .tup [], .tup [], .tup [], .tup [], .tup [], .tup []]
def pd18 : TM := [.tup [], .tup [], .tup [], .tup [], .tup [], .tup [], .tup [], .tup [], .tup [], .tup [], .tup [], .tup [], .tup [], .tup [], .tup [], .tup [], .tup [], .tup []]
def pd19 : TM := [.tup [], .tup [], .tup [], .tup [], .tup [], .tup [], .tup [], .tup [], .tup [], .tup [], .tup [], .tup [], .tup [], .tup [], .tup [], .tup [], .tup [], .tup [], .tup []]
def pd23 : TM := [.tup [], .tup [], .tup [], .tup [], .tup [], .tup [], .tup [], .tup [], .tup [], .tup [], .tup [], .tup [], .tup [], .tup [], .tup [], .tup [], .tup [], .tup [], .tup [], .tup [], .tup [], .tup [], .tup []]
def pd25 : TM := [.tup [], .tup [], .tup [], .tup [], .tup [], .tup [], .tup [], .tup [], .tup [], .tup [], .tup [], .tup [], .tup [], .tup [], .tup [], .tup [], .tup [], .tup [], .tup [], .tup [], .tup [], .tup [], .tup [], .tup [], .tup []]
def pd29 : TM := [.tup [], .tup [], .tup [], .tup [], .tup [], .tup [], .tup [], .tup [], .tup [], .tup [], .tup [], .tup [], .tup [], .tup [], .tup [], .tup [], .tup [], .tup [], .tup [], .tup [], .tup [], .tup [], .tup [], .tup [], .tup [], .tup [], .tup [], .tup [], .tup []]
end
end Go.Proofs.YtnljeinfkkeofaaGreatDoor
