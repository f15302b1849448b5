/- The head of RouteEnds is true: its examples, reckoned, part 2. No condition. -/
import Derived.Test.YtaeppjlndecijabGreatDoorH3
set_option linter.unusedVariables false
set_option linter.defProp false
set_option linter.unusedSimpArgs false
set_option linter.unusedSectionVars false
namespace Go.AM
open Go
set_option maxRecDepth 1000000
def ZVV:okP (@rE ZO8) 20000 30 [ZP4] (.bool true)=true:=by decide +kernel
def ZVW:okP ZO4 20000 34 [ZQj,I 1,ZQk] (.int .i64 0)=true:=by decide +kernel
def ZVX:okP ZO4 20000 34 [ZPG,I 1,ZQo] (.int .i64 0)=true:=by decide +kernel
def ZVY:okP ZO4 20000 35 [ZPE,I 1,ZQm] (.tup [ZPF,I 0])=true:=by decide +kernel
def ZVZ:okP ZO4 20000 74 [ZOk] (.bool true)=true:=by decide +kernel
def ZW0:okP ZO4 20000 290 [ZON,I 3,hzp 4 4] (.tup [hz2,I 0])=true:=by decide +kernel
def ZW1:okP ZO6 20000 31 [hzl 6 [],hz7,hz0,I 7] (.tup [hz0,hzl 1 [],I 0])=true:=by decide +kernel
def ZW2:okP ZO6 20000 14 [hz6] (.bool true)=true:=by decide +kernel
def ZW3:okP ZO6 20000 36 [ZOA,hz0] (.tup [ZTf,I 0])=true:=by decide +kernel
def ZW4:okP ZOG 20000 4 [] (.bool true)=true:=by decide +kernel
end Go.AM
