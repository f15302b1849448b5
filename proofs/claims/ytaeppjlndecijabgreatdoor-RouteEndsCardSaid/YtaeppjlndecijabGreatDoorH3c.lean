/- The head of RouteEnds is true: its examples, reckoned, part 4. No condition. -/
import Derived.Test.YtaeppjlndecijabGreatDoorH3
set_option linter.unusedVariables false
set_option linter.defProp false
set_option linter.unusedSimpArgs false
set_option linter.unusedSectionVars false
namespace Go.AM
open Go
set_option maxRecDepth 1000000
def ZWe:okP (@rE ZO8) 20000 22 [ZP4,I 1] ZT9=true:=by decide +kernel
def ZWf:okP ZO4 20000 34 [ZPE,I 1,ZQm] (.int .i64 0)=true:=by decide +kernel
def ZWg:okP ZO4 20000 35 [ZQj,I 1,ZQk] (.tup [ZPD,I 0])=true:=by decide +kernel
def ZWh:okP ZO4 20000 35 [ZPG,I 1,ZQo] (.tup [ZOk,I 0])=true:=by decide +kernel
def ZWi:okP ZO4 20000 288 [ZOk] ZON=true:=by decide +kernel
def ZWj:okP ZO4 20000 290 [ZON,I 1,hzp 4 4] (.tup [hz3,I 0])=true:=by decide +kernel
def ZWk:okP ZO6 20000 14 [hz0] (.bool true)=true:=by decide +kernel
def ZWl:okP ZO6 20000 15 [ZQq,I 7,I 9] (.tup [ZOA,ZTe])=true:=by decide +kernel
def ZWm:okP ZO6 20000 101 [ZOk,hz0] (.tup [ZTd,I 0])=true:=by decide +kernel
end Go.AM
