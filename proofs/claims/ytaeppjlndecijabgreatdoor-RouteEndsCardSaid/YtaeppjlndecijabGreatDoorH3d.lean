/- The head of RouteEnds is true: its examples, reckoned, part 5. No condition. -/
import Derived.Test.YtaeppjlndecijabGreatDoorH3
set_option linter.unusedVariables false
set_option linter.defProp false
set_option linter.unusedSimpArgs false
set_option linter.unusedSectionVars false
namespace Go.AM
open Go
set_option maxRecDepth 1000000
def ZWn:okP hdQ 20000 7 [ZP4,ZTa] (.tup [I 4,I 0])=true:=by decide +kernel
def ZWo:okP ZO4 20000 34 [ZPF,I 1,ZQn] (.int .i64 0)=true:=by decide +kernel
def ZWp:okP ZO4 20000 35 [ZPD,I 1,ZQl] (.tup [ZPE,I 0])=true:=by decide +kernel
def ZWq:okP ZO4 20000 35 [ZOk,I 1,ZQp] (.tup [ZOA,I 0])=true:=by decide +kernel
def ZWr:okP ZO4 20000 288 [ZOA] ZON=true:=by decide +kernel
def ZWs:okP ZO6 20000 31 [hzl 6 [],hz7,hz9,I 7] (.tup [hz9,hzl 1 [],I 0])=true:=by decide +kernel
def ZWt:okP ZO6 20000 14 [hz5] (.bool true)=true:=by decide +kernel
def ZWu:okP ZO6 20000 36 [ZOk,hz0] (.tup [ZTc,I 0])=true:=by decide +kernel
def ZWv:okP ZO6 20000 101 [ZOA,hz5] (.tup [ZTg,I 0])=true:=by decide +kernel
end Go.AM
