/- The head of RouteEnds is true: its examples, reckoned, part 3. No condition. -/
import Derived.Test.YtaeppjlndecijabGreatDoorH3
set_option linter.unusedVariables false
set_option linter.defProp false
set_option linter.unusedSimpArgs false
set_option linter.unusedSectionVars false
namespace Go.AM
open Go
set_option maxRecDepth 1000000
def ZW5:okP (@rE ZO8) 20000 22 [ZP4,I 2] ZT8=true:=by decide +kernel
def ZW6:okP ZO4 20000 34 [ZPD,I 1,ZQl] (.int .i64 0)=true:=by decide +kernel
def ZW7:okP ZO4 20000 34 [ZOk,I 1,ZQp] (.int .i64 0)=true:=by decide +kernel
def ZW8:okP ZO4 20000 35 [ZPF,I 1,ZQn] (.tup [ZPG,I 0])=true:=by decide +kernel
def ZW9:okP ZO4 20000 74 [ZOA] (.bool true)=true:=by decide +kernel
def ZWa:okP ZO4 20000 290 [ZON,I 2,hzp 4 4] (.tup [.str emp,I 10])=true:=by decide +kernel
def ZWb:okP ZO6 20000 31 [hzl 6 [],hz7,hz6,I 7] (.tup [hz6,hzl 1 [],I 0])=true:=by decide +kernel
def ZWc:okP ZO6 20000 15 [ZQq,I 7,I 3] (.tup [ZOk,ZTb])=true:=by decide +kernel
def ZWd:okP ZO6 20000 36 [ZOk,hz6] (.tup [(.agg [hzl 1 [],hzl 3 []]),I 10])=true:=by decide +kernel
end Go.AM
