/- The head of RegistryMatchesReference is true: its examples, reckoned. No condition. -/
import Derived.Test.YtmmfbjlenjnckaaGreatDoorP3a
set_option linter.unusedVariables false
set_option linter.defProp false
set_option linter.unusedSimpArgs false
set_option linter.unusedSectionVars false
namespace Go.AM
open Go
set_option maxRecDepth 1000000
@[reducible] def ZOx:REdz:=⟨none⟩
def ZQo(args:List AV):Option AV:=match args with|[.str s]=>some (Up s).val|_=>none
def ZO5:Env:={ @rE ZOx with sum:=λf=>bif Nat.beq f 231 then some (ZOA ZQo)else(@rE ZOx).sum f}
def ZOi:AV:=(.agg [(.isl false false 6 []),(.isl false false 5 []),(.isl false false 4 []),(.isl false false 16 []),(.isl false false 6 []),(.isl false false 2 []),(.isl false false 2 [])])
def ZPR:AV:=(.agg [(.int .i64 2),(.int .i64 0),(.int .i64 0),(.int .i64 0),(.int .i64 0),(.str ⟨#[115,49]⟩),(.str ⟨#[]⟩),(.str ⟨#[]⟩),(.isl false false 1 []),(.isl false false 3 []),(.int .i64 0),(.str ⟨#[]⟩),(.int .i64 0),(.int .i64 0),(.int .i64 0),(.int .i64 0),(.isl false false 2 [(.agg [(.int .i64 0),(.int .i64 0)]),(.agg [(.int .i64 9),(.int .i64 0)])]),(.isl false false 7 [])])
def ZPc:AV:=(.agg [(.isl false false 6 []),(.isl false false 5 [(.agg [(.str ⟨#[115,49]⟩),(.int .i64 1),(.isl false false 2 [(.agg [(.int .i64 0),(.int .i64 0)]),(.agg [(.int .i64 9),(.int .i64 0)])]),(.isl false false 3 []),(.int .i64<|-1)])]),(.isl false false 4 []),(.isl false false 16 []),(.isl false false 6 []),(.isl false false 2 []),(.isl false false 2 [])])
def ZPS:AV:=(.agg [(.int .i64 5),(.int .i64 0),(.int .i64 0),(.int .i64 0),(.int .i64 0),(.str ⟨#[98,49]⟩),(.str ⟨#[]⟩),(.str ⟨#[]⟩),(.isl false false 1 []),(.isl false false 3 []),(.int .i64 0),(.str ⟨#[]⟩),(.int .i64 0),(.int .i64 0),(.int .i64 0),(.int .i64 0),(.isl false false 2 [(.agg [(.int .i64 1),(.int .i64 1)]),(.agg [(.int .i64 4),(.int .i64 1)]),(.agg [(.int .i64 1),(.int .i64 4)])]),(.isl false false 7 [])])
def ZPd:AV:=(.agg [(.isl false false 6 []),(.isl false false 5 [(.agg [(.str ⟨#[115,49]⟩),(.int .i64 1),(.isl false false 2 [(.agg [(.int .i64 0),(.int .i64 0)]),(.agg [(.int .i64 9),(.int .i64 0)])]),(.isl false false 3 []),(.int .i64<|-1)])]),(.isl false false 4 [(.agg [(.str ⟨#[98,49]⟩),(.int .i64 1),(.isl false false 2 [(.agg [(.int .i64 1),(.int .i64 1)]),(.agg [(.int .i64 4),(.int .i64 1)]),(.agg [(.int .i64 1),(.int .i64 4)])]),(.int .i64<|-1)])]),(.isl false false 16 []),(.isl false false 6 []),(.isl false false 2 []),(.isl false false 2 [])])
def ZPT:AV:=(.agg [(.int .i64 6),(.int .i64 3),(.int .i64 0),(.int .i64 0),(.int .i64 0),(.str ⟨#[101,49]⟩),(.str ⟨#[98,49]⟩),(.str ⟨#[115,49]⟩),(.isl false false 1 []),(.isl false false 3 []),(.int .i64 1),(.str ⟨#[]⟩),(.int .i64 0),(.int .i64 0),(.int .i64 2),(.int .i64 1),(.isl false false 2 []),(.isl false false 7 [])])
def ZPe:AV:=(.agg [(.isl false false 6 []),(.isl false false 5 [(.agg [(.str ⟨#[115,49]⟩),(.int .i64 1),(.isl false false 2 [(.agg [(.int .i64 0),(.int .i64 0)]),(.agg [(.int .i64 9),(.int .i64 0)])]),(.isl false false 3 []),(.int .i64<|-1)])]),(.isl false false 4 [(.agg [(.str ⟨#[98,49]⟩),(.int .i64 1),(.isl false false 2 [(.agg [(.int .i64 1),(.int .i64 1)]),(.agg [(.int .i64 4),(.int .i64 1)]),(.agg [(.int .i64 1),(.int .i64 4)])]),(.int .i64<|-1)])]),(.isl false false 16 [(.agg [(.str ⟨#[101,49]⟩),(.str ⟨#[98,49]⟩),(.str ⟨#[115,49]⟩),(.int .i64 1),(.int .i64 1),(.str ⟨#[]⟩),(.int .i64 0),(.int .i64 0),(.int .i64 2),(.int .i64 1),(.int .i64 3),(.int .i64<|-1),(.isl false false 1 []),(.int .i64 0),(.int .i64 0),(.str ⟨#[]⟩)])]),(.isl false false 6 []),(.isl false false 2 []),(.isl false false 2 [])])
def ZPU:AV:=(.agg [(.int .i64 7),(.int .i64 0),(.int .i64 0),(.int .i64 0),(.int .i64 0),(.str ⟨#[117,49]⟩),(.str ⟨#[101,49]⟩),(.str ⟨#[50,76]⟩),(.isl false false 1 []),(.isl false false 3 []),(.int .i64 0),(.str ⟨#[]⟩),(.int .i64 0),(.int .i64 0),(.int .i64 0),(.int .i64 0),(.isl false false 2 []),(.isl false false 7 [])])
def ZPf:AV:=(.agg [(.isl false false 6 []),(.isl false false 5 [(.agg [(.str ⟨#[115,49]⟩),(.int .i64 1),(.isl false false 2 [(.agg [(.int .i64 0),(.int .i64 0)]),(.agg [(.int .i64 9),(.int .i64 0)])]),(.isl false false 3 []),(.int .i64<|-1)])]),(.isl false false 4 [(.agg [(.str ⟨#[98,49]⟩),(.int .i64 1),(.isl false false 2 [(.agg [(.int .i64 1),(.int .i64 1)]),(.agg [(.int .i64 4),(.int .i64 1)]),(.agg [(.int .i64 1),(.int .i64 4)])]),(.int .i64<|-1)])]),(.isl false false 16 [(.agg [(.str ⟨#[101,49]⟩),(.str ⟨#[98,49]⟩),(.str ⟨#[115,49]⟩),(.int .i64 1),(.int .i64 1),(.str ⟨#[]⟩),(.int .i64 0),(.int .i64 0),(.int .i64 2),(.int .i64 1),(.int .i64 3),(.int .i64<|-1),(.isl false false 1 []),(.int .i64 0),(.int .i64 0),(.str ⟨#[]⟩)])]),(.isl false false 6 [(.agg [(.str ⟨#[117,49]⟩),(.str ⟨#[101,49]⟩),(.str ⟨#[50,76]⟩),(.int .i64 0),(.int .i64<|-1),(.int .i64 0)])]),(.isl false false 2 []),(.isl false false 2 [])])
def ZPV:AV:=(.agg [(.int .i64 9),(.int .i64 7),(.int .i64 0),(.int .i64 0),(.int .i64 0),(.str ⟨#[101,49]⟩),(.str ⟨#[]⟩),(.str ⟨#[]⟩),(.isl false false 1 []),(.isl false false 3 []),(.int .i64 0),(.str ⟨#[]⟩),(.int .i64 0),(.int .i64 0),(.int .i64 0),(.int .i64 0),(.isl false false 2 []),(.isl false false 7 [(.agg [(.str ⟨#[101,50]⟩),(.int .i64 1),(.str ⟨#[]⟩),(.int .i64 0),(.int .i64 0),(.int .i64 0),(.int .i64 0)]),(.agg [(.str ⟨#[101,51]⟩),(.int .i64 3),(.str ⟨#[]⟩),(.int .i64 0),(.int .i64 0),(.int .i64 0),(.int .i64 0)])])])
def ZOy:AV:=(.agg [(.isl false false 6 []),(.isl false false 5 [(.agg [(.str ⟨#[115,49]⟩),(.int .i64 1),(.isl false false 2 [(.agg [(.int .i64 0),(.int .i64 0)]),(.agg [(.int .i64 9),(.int .i64 0)])]),(.isl false false 3 []),(.int .i64<|-1)])]),(.isl false false 4 [(.agg [(.str ⟨#[98,49]⟩),(.int .i64 1),(.isl false false 2 [(.agg [(.int .i64 1),(.int .i64 1)]),(.agg [(.int .i64 4),(.int .i64 1)]),(.agg [(.int .i64 1),(.int .i64 4)])]),(.int .i64<|-1)])]),(.isl false false 16 [(.agg [(.str ⟨#[101,49]⟩),(.str ⟨#[98,49]⟩),(.str ⟨#[115,49]⟩),(.int .i64 1),(.int .i64 1),(.str ⟨#[]⟩),(.int .i64 0),(.int .i64 0),(.int .i64 2),(.int .i64 1),(.int .i64 3),(.int .i64 7),(.isl false false 1 [(.str ⟨#[101,50]⟩),(.str ⟨#[101,51]⟩)]),(.int .i64 9),(.int .i64 0),(.str ⟨#[]⟩)]),(.agg [(.str ⟨#[101,50]⟩),(.str ⟨#[98,49]⟩),(.str ⟨#[115,49]⟩),(.int .i64 1),(.int .i64 1),(.str ⟨#[]⟩),(.int .i64 0),(.int .i64 0),(.int .i64 0),(.int .i64 0),(.int .i64 7),(.int .i64<|-1),(.isl false false 1 []),(.int .i64 0),(.int .i64 0),(.str ⟨#[]⟩)]),(.agg [(.str ⟨#[101,51]⟩),(.str ⟨#[98,49]⟩),(.str ⟨#[115,49]⟩),(.int .i64 1),(.int .i64 3),(.str ⟨#[]⟩),(.int .i64 0),(.int .i64 0),(.int .i64 0),(.int .i64 0),(.int .i64 7),(.int .i64<|-1),(.isl false false 1 []),(.int .i64 0),(.int .i64 0),(.str ⟨#[]⟩)])]),(.isl false false 6 [(.agg [(.str ⟨#[117,49]⟩),(.str ⟨#[101,50]⟩),(.str ⟨#[50,76]⟩),(.int .i64 0),(.int .i64<|-1),(.int .i64 0)])]),(.isl false false 2 []),(.isl false false 2 [])])
def ZPW:AV:=(.agg [(.int .i64 6),(.int .i64 0),(.int .i64 0),(.int .i64 0),(.int .i64 0),(.str ⟨#[101,49]⟩),(.str ⟨#[98,49]⟩),(.str ⟨#[115,49]⟩),(.isl false false 1 []),(.isl false false 3 []),(.int .i64 9),(.str ⟨#[]⟩),(.int .i64 0),(.int .i64 0),(.int .i64 0),(.int .i64 0),(.isl false false 2 []),(.isl false false 7 [])])
def ZPX:AV:=(.agg [(.int .i64 6),(.int .i64 0),(.int .i64 0),(.int .i64 0),(.int .i64 0),(.str ⟨#[101,52]⟩),(.str ⟨#[98,49]⟩),(.str ⟨#[115,49]⟩),(.isl false false 1 []),(.isl false false 3 []),(.int .i64 3),(.str ⟨#[]⟩),(.int .i64 0),(.int .i64 0),(.int .i64 0),(.int .i64 0),(.isl false false 2 []),(.isl false false 7 [])])
def ZPY:AV:=(.agg [(.int .i64 8),(.int .i64 0),(.int .i64 0),(.int .i64 0),(.int .i64 0),(.str ⟨#[115,49]⟩),(.str ⟨#[]⟩),(.str ⟨#[]⟩),(.isl false false 1 []),(.isl false false 3 []),(.int .i64 0),(.str ⟨#[]⟩),(.int .i64 0),(.int .i64 0),(.int .i64 0),(.int .i64 0),(.isl false false 2 []),(.isl false false 7 [(.agg [(.str ⟨#[101,50]⟩),(.int .i64 3),(.str ⟨#[]⟩),(.int .i64 0),(.int .i64 0),(.int .i64 0),(.int .i64 0)]),(.agg [(.str ⟨#[101,51]⟩),(.int .i64 1),(.str ⟨#[]⟩),(.int .i64 0),(.int .i64 0),(.int .i64 0),(.int .i64 0)])])])
def ZOT:AV:=(.agg [(.isl false false 6 []),(.isl false false 5 [(.agg [(.str ⟨#[115,49]⟩),(.int .i64 1),(.isl false false 2 [(.agg [(.int .i64 0),(.int .i64 0)]),(.agg [(.int .i64 9),(.int .i64 0)])]),(.isl false false 3 []),(.int .i64<|-1)])]),(.isl false false 4 [(.agg [(.str ⟨#[98,49]⟩),(.int .i64 1),(.isl false false 2 [(.agg [(.int .i64 1),(.int .i64 1)]),(.agg [(.int .i64 4),(.int .i64 1)]),(.agg [(.int .i64 1),(.int .i64 4)])]),(.int .i64<|-1)])]),(.isl false false 16 [(.agg [(.str ⟨#[101,49]⟩),(.str ⟨#[98,49]⟩),(.str ⟨#[115,49]⟩),(.int .i64 1),(.int .i64 1),(.str ⟨#[]⟩),(.int .i64 0),(.int .i64 0),(.int .i64 2),(.int .i64 1),(.int .i64 3),(.int .i64 7),(.isl false false 1 [(.str ⟨#[101,50]⟩),(.str ⟨#[101,51]⟩)]),(.int .i64 9),(.int .i64 0),(.str ⟨#[]⟩)]),(.agg [(.str ⟨#[101,50]⟩),(.str ⟨#[98,49]⟩),(.str ⟨#[115,49]⟩),(.int .i64 1),(.int .i64 3),(.str ⟨#[]⟩),(.int .i64 0),(.int .i64 0),(.int .i64 0),(.int .i64 0),(.int .i64 7),(.int .i64<|-1),(.isl false false 1 []),(.int .i64 0),(.int .i64 0),(.str ⟨#[]⟩)]),(.agg [(.str ⟨#[101,51]⟩),(.str ⟨#[98,49]⟩),(.str ⟨#[115,49]⟩),(.int .i64 1),(.int .i64 1),(.str ⟨#[]⟩),(.int .i64 0),(.int .i64 0),(.int .i64 0),(.int .i64 0),(.int .i64 7),(.int .i64<|-1),(.isl false false 1 []),(.int .i64 0),(.int .i64 0),(.str ⟨#[]⟩)])]),(.isl false false 6 [(.agg [(.str ⟨#[117,49]⟩),(.str ⟨#[101,50]⟩),(.str ⟨#[50,76]⟩),(.int .i64 0),(.int .i64<|-1),(.int .i64 0)])]),(.isl false false 2 []),(.isl false false 2 [])])
def ZPZ:AV:=(.agg [(.int .i64 12),(.int .i64 0),(.int .i64 0),(.int .i64 0),(.int .i64 0),(.str ⟨#[115,49]⟩),(.str ⟨#[]⟩),(.str ⟨#[]⟩),(.isl false false 1 []),(.isl false false 3 []),(.int .i64 0),(.str ⟨#[]⟩),(.int .i64 0),(.int .i64 0),(.int .i64 0),(.int .i64 0),(.isl false false 2 []),(.isl false false 7 [])])
def ZQ0:AV:=(.agg [(.int .i64 11),(.int .i64 9),(.int .i64 0),(.int .i64 0),(.int .i64 0),(.str ⟨#[98,49]⟩),(.str ⟨#[]⟩),(.str ⟨#[]⟩),(.isl false false 1 []),(.isl false false 3 []),(.int .i64 0),(.str ⟨#[]⟩),(.int .i64 0),(.int .i64 0),(.int .i64 0),(.int .i64 0),(.isl false false 2 []),(.isl false false 7 [])])
def ZPg:AV:=(.agg [(.isl false false 6 []),(.isl false false 5 [(.agg [(.str ⟨#[115,49]⟩),(.int .i64 1),(.isl false false 2 [(.agg [(.int .i64 0),(.int .i64 0)]),(.agg [(.int .i64 9),(.int .i64 0)])]),(.isl false false 3 []),(.int .i64<|-1)])]),(.isl false false 4 [(.agg [(.str ⟨#[98,49]⟩),(.int .i64 1),(.isl false false 2 [(.agg [(.int .i64 1),(.int .i64 1)]),(.agg [(.int .i64 4),(.int .i64 1)]),(.agg [(.int .i64 1),(.int .i64 4)])]),(.int .i64 9)])]),(.isl false false 16 [(.agg [(.str ⟨#[101,49]⟩),(.str ⟨#[98,49]⟩),(.str ⟨#[115,49]⟩),(.int .i64 1),(.int .i64 1),(.str ⟨#[]⟩),(.int .i64 0),(.int .i64 0),(.int .i64 2),(.int .i64 1),(.int .i64 3),(.int .i64 7),(.isl false false 1 [(.str ⟨#[101,50]⟩),(.str ⟨#[101,51]⟩)]),(.int .i64 9),(.int .i64 0),(.str ⟨#[]⟩)]),(.agg [(.str ⟨#[101,50]⟩),(.str ⟨#[98,49]⟩),(.str ⟨#[115,49]⟩),(.int .i64 1),(.int .i64 3),(.str ⟨#[]⟩),(.int .i64 0),(.int .i64 0),(.int .i64 0),(.int .i64 0),(.int .i64 7),(.int .i64 9),(.isl false false 1 []),(.int .i64 11),(.int .i64 0),(.str ⟨#[]⟩)]),(.agg [(.str ⟨#[101,51]⟩),(.str ⟨#[98,49]⟩),(.str ⟨#[115,49]⟩),(.int .i64 1),(.int .i64 1),(.str ⟨#[]⟩),(.int .i64 0),(.int .i64 0),(.int .i64 0),(.int .i64 0),(.int .i64 7),(.int .i64 9),(.isl false false 1 []),(.int .i64 11),(.int .i64 0),(.str ⟨#[]⟩)])]),(.isl false false 6 [(.agg [(.str ⟨#[117,49]⟩),(.str ⟨#[101,50]⟩),(.str ⟨#[50,76]⟩),(.int .i64 0),(.int .i64 9),(.int .i64 11)])]),(.isl false false 2 []),(.isl false false 2 [])])
def ZQ1:AV:=(.agg [(.int .i64 13),(.int .i64 0),(.int .i64 1),(.int .i64 2),(.int .i64 0),(.str ⟨#[]⟩),(.str ⟨#[]⟩),(.str ⟨#[]⟩),(.isl false false 1 []),(.isl false false 3 []),(.int .i64 0),(.str ⟨#[]⟩),(.int .i64 0),(.int .i64 0),(.int .i64 0),(.int .i64 0),(.isl false false 2 []),(.isl false false 7 [])])
def ZOU:AV:=(.agg [(.isl false false 6 []),(.isl false false 5 [(.agg [(.str ⟨#[115,49]⟩),(.int .i64 1),(.isl false false 2 [(.agg [(.int .i64 0),(.int .i64 0)]),(.agg [(.int .i64 9),(.int .i64 0)])]),(.isl false false 3 []),(.int .i64<|-1)])]),(.isl false false 4 [(.agg [(.str ⟨#[98,49]⟩),(.int .i64 1),(.isl false false 2 [(.agg [(.int .i64 1),(.int .i64 1)]),(.agg [(.int .i64 4),(.int .i64 1)]),(.agg [(.int .i64 1),(.int .i64 4)])]),(.int .i64 9)])]),(.isl false false 16 [(.agg [(.str ⟨#[101,49]⟩),(.str ⟨#[98,49]⟩),(.str ⟨#[115,49]⟩),(.int .i64 1),(.int .i64 1),(.str ⟨#[]⟩),(.int .i64 0),(.int .i64 0),(.int .i64 2),(.int .i64 1),(.int .i64 3),(.int .i64 7),(.isl false false 1 [(.str ⟨#[101,50]⟩),(.str ⟨#[101,51]⟩)]),(.int .i64 9),(.int .i64 0),(.str ⟨#[]⟩)]),(.agg [(.str ⟨#[101,50]⟩),(.str ⟨#[98,49]⟩),(.str ⟨#[115,49]⟩),(.int .i64 1),(.int .i64 3),(.str ⟨#[]⟩),(.int .i64 0),(.int .i64 0),(.int .i64 0),(.int .i64 0),(.int .i64 7),(.int .i64 9),(.isl false false 1 []),(.int .i64 11),(.int .i64 0),(.str ⟨#[]⟩)]),(.agg [(.str ⟨#[101,51]⟩),(.str ⟨#[98,49]⟩),(.str ⟨#[115,49]⟩),(.int .i64 1),(.int .i64 1),(.str ⟨#[]⟩),(.int .i64 0),(.int .i64 0),(.int .i64 0),(.int .i64 0),(.int .i64 7),(.int .i64 9),(.isl false false 1 []),(.int .i64 11),(.int .i64 0),(.str ⟨#[]⟩)])]),(.isl false false 6 [(.agg [(.str ⟨#[117,49]⟩),(.str ⟨#[101,50]⟩),(.str ⟨#[50,76]⟩),(.int .i64 0),(.int .i64 9),(.int .i64 11)])]),(.isl false false 2 [(.agg [(.int .i64 1),(.int .i64 2)])]),(.isl false false 2 [])])
def ZQ2:AV:=(.agg [(.int .i64 13),(.int .i64 0),(.int .i64 2),(.int .i64 1),(.int .i64 0),(.str ⟨#[]⟩),(.str ⟨#[]⟩),(.str ⟨#[]⟩),(.isl false false 1 []),(.isl false false 3 []),(.int .i64 0),(.str ⟨#[]⟩),(.int .i64 0),(.int .i64 0),(.int .i64 0),(.int .i64 0),(.isl false false 2 []),(.isl false false 7 [])])
def ZQ3:AV:=(.agg [(.int .i64 13),(.int .i64 0),(.int .i64 3),(.int .i64 2),(.int .i64 0),(.str ⟨#[]⟩),(.str ⟨#[]⟩),(.str ⟨#[]⟩),(.isl false false 1 []),(.isl false false 3 []),(.int .i64 0),(.str ⟨#[]⟩),(.int .i64 0),(.int .i64 0),(.int .i64 0),(.int .i64 0),(.isl false false 2 []),(.isl false false 7 [])])
def ZW0:okP ZO5 20000 9 [ZOi] (.bool true)=true:=by decide +kernel
def ZW1:okP ZO5 20000 9 [ZPc] (.bool true)=true:=by decide +kernel
def ZW2:okP ZO5 20000 9 [ZPd] (.bool true)=true:=by decide +kernel
def ZW3:okP ZO5 20000 9 [ZPe] (.bool true)=true:=by decide +kernel
def ZW4:okP ZO5 20000 9 [ZPf] (.bool true)=true:=by decide +kernel
def ZW5:okP ZO5 20000 9 [ZOy] (.bool true)=true:=by decide +kernel
def ZW6:okP ZO5 20000 9 [ZOT] (.bool true)=true:=by decide +kernel
def ZW7:okP ZO5 20000 9 [ZPg] (.bool true)=true:=by decide +kernel
def ZW8:okP ZO5 20000 9 [ZOU] (.bool true)=true:=by decide +kernel
def ZQp:List (List AV×AV):=[([ZOi],(.bool true)),([ZPc],(.bool true)),([ZPd],(.bool true)),([ZPe],(.bool true)),([ZPf],(.bool true)),([ZOy],(.bool true)),([ZOT],(.bool true)),([ZPg],(.bool true)),([ZOU],(.bool true))]
def ZW9:∀p∈ZQp,pfn ZO5 9 p.1=some p.2:=by
 intro p hp;simp only[ZQp,ZXv,ZYf,or_false]at hp;rcases hp with rfl|rfl|rfl|rfl|rfl|rfl|rfl|rfl|rfl
 .exact ZO3 ZW0
 .exact ZO3 ZW1
 .exact ZO3 ZW2
 .exact ZO3 ZW3
 .exact ZO3 ZW4
 .exact ZO3 ZW5
 .exact ZO3 ZW6
 .exact ZO3 ZW7
 .exact ZO3 ZW8
def ZWa:okP ZO5 20000 33 [ZPR] (.bool true)=true:=by decide +kernel
def ZWb:okP ZO5 20000 33 [ZPS] (.bool true)=true:=by decide +kernel
def ZWc:okP ZO5 20000 33 [ZPT] (.bool true)=true:=by decide +kernel
def ZWd:okP ZO5 20000 33 [ZPU] (.bool true)=true:=by decide +kernel
def ZWe:okP ZO5 20000 33 [ZPV] (.bool true)=true:=by decide +kernel
def ZWf:okP ZO5 20000 33 [ZPW] (.bool true)=true:=by decide +kernel
def ZWg:okP ZO5 20000 33 [ZPX] (.bool true)=true:=by decide +kernel
def ZWh:okP ZO5 20000 33 [ZPY] (.bool true)=true:=by decide +kernel
def ZWi:okP ZO5 20000 33 [ZPZ] (.bool true)=true:=by decide +kernel
def ZWj:okP ZO5 20000 33 [ZQ0] (.bool true)=true:=by decide +kernel
def ZWk:okP ZO5 20000 33 [ZQ1] (.bool true)=true:=by decide +kernel
def ZWl:okP ZO5 20000 33 [ZQ2] (.bool true)=true:=by decide +kernel
def ZWm:okP ZO5 20000 33 [ZQ3] (.bool true)=true:=by decide +kernel
def ZQq:List (List AV×AV):=[([ZPR],(.bool true)),([ZPS],(.bool true)),([ZPT],(.bool true)),([ZPU],(.bool true)),([ZPV],(.bool true)),([ZPW],(.bool true)),([ZPX],(.bool true)),([ZPY],(.bool true)),([ZPZ],(.bool true)),([ZQ0],(.bool true)),([ZQ1],(.bool true)),([ZQ2],(.bool true)),([ZQ3],(.bool true))]
def ZWn:∀p∈ZQq,pfn ZO5 33 p.1=some p.2:=by
 intro p hp;simp only[ZQq,ZXv,ZYf,or_false]at hp;rcases hp with rfl|rfl|rfl|rfl|rfl|rfl|rfl|rfl|rfl|rfl|rfl|rfl|rfl
 .exact ZO3 ZWa
 .exact ZO3 ZWb
 .exact ZO3 ZWc
 .exact ZO3 ZWd
 .exact ZO3 ZWe
 .exact ZO3 ZWf
 .exact ZO3 ZWg
 .exact ZO3 ZWh
 .exact ZO3 ZWi
 .exact ZO3 ZWj
 .exact ZO3 ZWk
 .exact ZO3 ZWl
 .exact ZO3 ZWm
def ZO8:Env:={ZO5 with sum:=λf=>bif Nat.beq f 9 then some (ZOA<|ZPi ZQp)else bif Nat.beq f 33 then some (ZOA<|ZPi ZQq)else ZO5.sum f}
def ZWo:okP ZO8 20000 7 [ZOi,(.int .i64 1),ZPR] (.tup [ZPc,(.int .i64 0)])=true:=by decide +kernel
def ZWp:okP ZO8 20000 7 [ZPc,(.int .i64 1),ZPS] (.tup [ZPd,(.int .i64 0)])=true:=by decide +kernel
def ZWq:okP ZO8 20000 7 [ZPd,(.int .i64 1),ZPT] (.tup [ZPe,(.int .i64 0)])=true:=by decide +kernel
def ZWr:okP ZO8 20000 7 [ZPe,(.int .i64 1),ZPU] (.tup [ZPf,(.int .i64 0)])=true:=by decide +kernel
def ZWs:okP ZO8 20000 7 [ZPf,(.int .i64 1),ZPV] (.tup [ZOy,(.int .i64 0)])=true:=by decide +kernel
def ZWt:okP ZO8 20000 7 [ZOy,(.int .i64 1),ZPW] (.tup [ZOi,(.int .i64 8)])=true:=by decide +kernel
def ZWu:okP ZO8 20000 7 [ZOy,(.int .i64 1),ZPX] (.tup [ZOi,(.int .i64 8)])=true:=by decide +kernel
def ZWv:okP ZO8 20000 7 [ZOy,(.int .i64 1),ZPY] (.tup [ZOT,(.int .i64 0)])=true:=by decide +kernel
def ZWw:okP ZO8 20000 7 [ZOT,(.int .i64 1),ZPZ] (.tup [ZOi,(.int .i64 11)])=true:=by decide +kernel
def ZWx:okP ZO8 20000 7 [ZOT,(.int .i64 1),ZQ0] (.tup [ZPg,(.int .i64 0)])=true:=by decide +kernel
def ZWy:okP ZO8 20000 7 [ZPg,(.int .i64 0),ZQ1] (.tup [ZOU,(.int .i64 0)])=true:=by decide +kernel
def ZWz:okP ZO8 20000 7 [ZOU,(.int .i64 0),ZQ2] (.tup [ZOi,(.int .i64 12)])=true:=by decide +kernel
def ZWA:okP ZO8 20000 7 [ZOU,(.int .i64 0),ZQ3] (.tup [ZOi,(.int .i64 11)])=true:=by decide +kernel
def ZQr:List (List AV×AV):=[([ZOi,(.int .i64 1),ZPR],(.tup [ZPc,(.int .i64 0)])),([ZPc,(.int .i64 1),ZPS],(.tup [ZPd,(.int .i64 0)])),([ZPd,(.int .i64 1),ZPT],(.tup [ZPe,(.int .i64 0)])),([ZPe,(.int .i64 1),ZPU],(.tup [ZPf,(.int .i64 0)])),([ZPf,(.int .i64 1),ZPV],(.tup [ZOy,(.int .i64 0)])),([ZOy,(.int .i64 1),ZPW],(.tup [ZOi,(.int .i64 8)])),([ZOy,(.int .i64 1),ZPX],(.tup [ZOi,(.int .i64 8)])),([ZOy,(.int .i64 1),ZPY],(.tup [ZOT,(.int .i64 0)])),([ZOT,(.int .i64 1),ZPZ],(.tup [ZOi,(.int .i64 11)])),([ZOT,(.int .i64 1),ZQ0],(.tup [ZPg,(.int .i64 0)])),([ZPg,(.int .i64 0),ZQ1],(.tup [ZOU,(.int .i64 0)])),([ZOU,(.int .i64 0),ZQ2],(.tup [ZOi,(.int .i64 12)])),([ZOU,(.int .i64 0),ZQ3],(.tup [ZOi,(.int .i64 11)]))]
def ZWB:∀p∈ZQr,pfn ZO8 7 p.1=some p.2:=by
 intro p hp;simp only[ZQr,ZXv,ZYf,or_false]at hp;rcases hp with rfl|rfl|rfl|rfl|rfl|rfl|rfl|rfl|rfl|rfl|rfl|rfl|rfl
 .exact ZO3 ZWo
 .exact ZO3 ZWp
 .exact ZO3 ZWq
 .exact ZO3 ZWr
 .exact ZO3 ZWs
 .exact ZO3 ZWt
 .exact ZO3 ZWu
 .exact ZO3 ZWv
 .exact ZO3 ZWw
 .exact ZO3 ZWx
 .exact ZO3 ZWy
 .exact ZO3 ZWz
 .exact ZO3 ZWA
def ZP5:Env:={ZO8 with sum:=λf=>bif Nat.beq f 7 then some (ZOA<|ZPi ZQr)else ZO8.sum f}
def ZWC:okP ZP5 20000 5 [] (.bool true)=true:=by decide +kernel
def ZWD:pfn ZP5 5 []=some (.bool true):=ZO3 ZWC
end Go.AM
