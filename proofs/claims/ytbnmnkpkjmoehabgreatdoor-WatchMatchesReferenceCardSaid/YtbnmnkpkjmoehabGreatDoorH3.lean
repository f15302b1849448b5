/- The head of WatchMatchesReference is true: its examples, reckoned. No condition. -/
import Derived.Test.YtbnmnkpkjmoehabGreatDoorP3a
set_option linter.unusedVariables false
set_option linter.defProp false
set_option linter.unusedSimpArgs false
set_option linter.unusedSectionVars false
namespace Go.AM
open Go
set_option maxRecDepth 1000000
@[reducible] def ZOF:REdz:=⟨none⟩
def ZQA(args:List AV):Option AV:=match args with|[.str s]=>some (Up s).val|_=>none
def ZOi:Env:={ @rE ZOF with sum:=λf=>bif Nat.beq f 90 then some (ZOG ZQA)else(@rE ZOF).sum f}
def ZSL:AV:=(.agg [(.int .i64 2),(.int .i64 0),(.int .i64 0),(.int .i64 0),(.int .i64 0),(.str ⟨#[115]⟩),(.str ⟨#[]⟩),(.str ⟨#[]⟩),(.isl false false 1 []),(.isl false false 3 []),(.int .i64 0),(.str ⟨#[]⟩),(.int .i64 0),(.int .i64 0),(.int .i64 0),(.int .i64 0),(.isl false false 2 [(.agg [(.int .i64 0),(.int .i64 0)]),(.agg [(.int .i64 9),(.int .i64 0)])]),(.isl false false 7 [])])
def ZSM:AV:=(.agg [(.int .i64 5),(.int .i64 0),(.int .i64 0),(.int .i64 0),(.int .i64 0),(.str ⟨#[98]⟩),(.str ⟨#[]⟩),(.str ⟨#[]⟩),(.isl false false 1 []),(.isl false false 3 []),(.int .i64 0),(.str ⟨#[]⟩),(.int .i64 0),(.int .i64 0),(.int .i64 0),(.int .i64 0),(.isl false false 2 [(.agg [(.int .i64 0),(.int .i64 0)]),(.agg [(.int .i64 9),(.int .i64 0)]),(.agg [(.int .i64 9),(.int .i64 9)]),(.agg [(.int .i64 0),(.int .i64 9)])]),(.isl false false 7 [])])
def ZSN:AV:=(.agg [(.int .i64 6),(.int .i64 0),(.int .i64 0),(.int .i64 0),(.int .i64 0),(.str ⟨#[101,49]⟩),(.str ⟨#[98]⟩),(.str ⟨#[115]⟩),(.isl false false 1 []),(.isl false false 3 []),(.int .i64 1),(.str ⟨#[]⟩),(.int .i64 0),(.int .i64 0),(.int .i64 0),(.int .i64 0),(.isl false false 2 []),(.isl false false 7 [])])
def ZSO:AV:=(.agg [(.int .i64 15),(.int .i64 0),(.int .i64 0),(.int .i64 0),(.int .i64 0),(.str ⟨#[104]⟩),(.str ⟨#[]⟩),(.str ⟨#[120]⟩),(.isl false false 1 []),(.isl false false 3 []),(.int .i64 0),(.str ⟨#[]⟩),(.int .i64 0),(.int .i64 0),(.int .i64 0),(.int .i64 0),(.isl false false 2 []),(.isl false false 7 [])])
def ZQ2:AV:=(.agg [(.int .i64 9),(.int .i64 0),(.int .i64 0),(.int .i64 0),(.int .i64 0),(.str ⟨#[101,49]⟩),(.str ⟨#[]⟩),(.str ⟨#[]⟩),(.isl false false 1 []),(.isl false false 3 []),(.int .i64 0),(.str ⟨#[]⟩),(.int .i64 0),(.int .i64 0),(.int .i64 0),(.int .i64 0),(.isl false false 2 []),(.isl false false 7 [(.agg [(.str ⟨#[101,50]⟩),(.int .i64 1),(.str ⟨#[]⟩),(.int .i64 0),(.int .i64 0),(.int .i64 0),(.int .i64 0)]),(.agg [(.str ⟨#[101,51]⟩),(.int .i64 2),(.str ⟨#[]⟩),(.int .i64 0),(.int .i64 0),(.int .i64 0),(.int .i64 0)])])])
def ZSP:AV:=(.agg [(.int .i64 6),(.int .i64 0),(.int .i64 0),(.int .i64 0),(.int .i64 0),(.str ⟨#[101,50]⟩),(.str ⟨#[98]⟩),(.str ⟨#[115]⟩),(.isl false false 1 []),(.isl false false 3 []),(.int .i64 1),(.str ⟨#[]⟩),(.int .i64 0),(.int .i64 0),(.int .i64 0),(.int .i64 0),(.isl false false 2 []),(.isl false false 7 [])])
def ZSQ:AV:=(.agg [(.int .i64 6),(.int .i64 0),(.int .i64 0),(.int .i64 0),(.int .i64 0),(.str ⟨#[101,51]⟩),(.str ⟨#[98]⟩),(.str ⟨#[115]⟩),(.isl false false 1 []),(.isl false false 3 []),(.int .i64 2),(.str ⟨#[]⟩),(.int .i64 0),(.int .i64 0),(.int .i64 0),(.int .i64 0),(.isl false false 2 []),(.isl false false 7 [])])
def ZQ3:AV:=(.agg [(.isl false false 6 []),(.isl false false 5 [(.agg [(.str ⟨#[115]⟩),(.int .i64 0),(.isl false false 2 [(.agg [(.int .i64 0),(.int .i64 0)]),(.agg [(.int .i64 9),(.int .i64 0)])]),(.isl false false 3 []),(.int .i64<|-1)])]),(.isl false false 4 [(.agg [(.str ⟨#[98]⟩),(.int .i64 0),(.isl false false 2 [(.agg [(.int .i64 0),(.int .i64 0)]),(.agg [(.int .i64 9),(.int .i64 0)]),(.agg [(.int .i64 9),(.int .i64 9)]),(.agg [(.int .i64 0),(.int .i64 9)])]),(.int .i64<|-1)])]),(.isl false false 16 [(.agg [(.str ⟨#[101,49]⟩),(.str ⟨#[98]⟩),(.str ⟨#[115]⟩),(.int .i64 0),(.int .i64 1),(.str ⟨#[]⟩),(.int .i64 0),(.int .i64 0),(.int .i64 0),(.int .i64 0),(.int .i64 0),(.int .i64<|-1),(.isl false false 1 []),(.int .i64 0),(.int .i64 0),(.str ⟨#[]⟩)]),(.agg [(.str ⟨#[104]⟩),(.str ⟨#[]⟩),(.str ⟨#[]⟩),(.int .i64 0),(.int .i64 0),(.str ⟨#[]⟩),(.int .i64 0),(.int .i64 0),(.int .i64 0),(.int .i64 0),(.int .i64 0),(.int .i64<|-1),(.isl false false 1 []),(.int .i64 0),(.int .i64 0),(.str ⟨#[120]⟩)])]),(.isl false false 6 []),(.isl false false 2 []),(.isl false false 2 [])])
def ZQ4:AV:=(.agg [(.isl false false 6 []),(.isl false false 5 [(.agg [(.str ⟨#[115]⟩),(.int .i64 0),(.isl false false 2 [(.agg [(.int .i64 0),(.int .i64 0)]),(.agg [(.int .i64 9),(.int .i64 0)])]),(.isl false false 3 []),(.int .i64<|-1)])]),(.isl false false 4 [(.agg [(.str ⟨#[98]⟩),(.int .i64 0),(.isl false false 2 [(.agg [(.int .i64 0),(.int .i64 0)]),(.agg [(.int .i64 9),(.int .i64 0)]),(.agg [(.int .i64 9),(.int .i64 9)]),(.agg [(.int .i64 0),(.int .i64 9)])]),(.int .i64<|-1)])]),(.isl false false 16 [(.agg [(.str ⟨#[101,49]⟩),(.str ⟨#[98]⟩),(.str ⟨#[115]⟩),(.int .i64 0),(.int .i64 1),(.str ⟨#[]⟩),(.int .i64 0),(.int .i64 0),(.int .i64 0),(.int .i64 0),(.int .i64 0),(.int .i64 0),(.isl false false 1 [(.str ⟨#[101,50]⟩),(.str ⟨#[101,51]⟩)]),(.int .i64 9),(.int .i64 0),(.str ⟨#[]⟩)]),(.agg [(.str ⟨#[104]⟩),(.str ⟨#[]⟩),(.str ⟨#[]⟩),(.int .i64 0),(.int .i64 0),(.str ⟨#[]⟩),(.int .i64 0),(.int .i64 0),(.int .i64 0),(.int .i64 0),(.int .i64 0),(.int .i64<|-1),(.isl false false 1 []),(.int .i64 0),(.int .i64 0),(.str ⟨#[120]⟩)]),(.agg [(.str ⟨#[101,50]⟩),(.str ⟨#[98]⟩),(.str ⟨#[115]⟩),(.int .i64 0),(.int .i64 1),(.str ⟨#[]⟩),(.int .i64 0),(.int .i64 0),(.int .i64 0),(.int .i64 0),(.int .i64 0),(.int .i64<|-1),(.isl false false 1 []),(.int .i64 0),(.int .i64 0),(.str ⟨#[]⟩)]),(.agg [(.str ⟨#[101,51]⟩),(.str ⟨#[98]⟩),(.str ⟨#[115]⟩),(.int .i64 0),(.int .i64 2),(.str ⟨#[]⟩),(.int .i64 0),(.int .i64 0),(.int .i64 0),(.int .i64 0),(.int .i64 0),(.int .i64<|-1),(.isl false false 1 []),(.int .i64 0),(.int .i64 0),(.str ⟨#[]⟩)])]),(.isl false false 6 []),(.isl false false 2 []),(.isl false false 2 [])])
def ZVP:okP ZOi 20000 62 [ZSL] (.bool true)=true:=by decide +kernel
def ZVQ:okP ZOi 20000 62 [ZSM] (.bool true)=true:=by decide +kernel
def ZVR:okP ZOi 20000 62 [ZSN] (.bool true)=true:=by decide +kernel
def ZVS:okP ZOi 20000 62 [ZSO] (.bool true)=true:=by decide +kernel
def ZVT:okP ZOi 20000 62 [ZQ2] (.bool true)=true:=by decide +kernel
def ZVU:okP ZOi 20000 62 [ZSP] (.bool true)=true:=by decide +kernel
def ZVV:okP ZOi 20000 62 [ZSQ] (.bool true)=true:=by decide +kernel
def ZQB:List (List AV×AV):=[([ZSL],(.bool true)),([ZSM],(.bool true)),([ZSN],(.bool true)),([ZSO],(.bool true)),([ZQ2],(.bool true)),([ZSP],(.bool true)),([ZSQ],(.bool true))]
def ZVW:∀p∈ZQB,pfn ZOi 62 p.1=some p.2:=by
 intro p hp;simp only[ZQB,ZWJ,ZYb,or_false]at hp;rcases hp with rfl|rfl|rfl|rfl|rfl|rfl|rfl
 .exact ZOp ZVP
 .exact ZOp ZVQ
 .exact ZOp ZVR
 .exact ZOp ZVS
 .exact ZOp ZVT
 .exact ZOp ZVU
 .exact ZOp ZVV
def ZOo:Env:={ZOi with sum:=λf=>bif Nat.beq f 62 then some (ZOG<|ZPm ZQB)else ZOi.sum f}
def ZVX:okP ZOo 20000 30 [ZQ3,(.int .i64 0),ZQ2] (.tup [ZQ4,(.int .i64 0)])=true:=by decide +kernel
def ZQC:List (List AV×AV):=[([ZQ3,(.int .i64 0),ZQ2],(.tup [ZQ4,(.int .i64 0)]))]
def ZVY:∀p∈ZQC,pfn ZOo 30 p.1=some p.2:=by
 intro p hp;simp only[ZQC,ZWJ,ZYb,or_false]at hp;rcases hp with rfl
 .exact ZOp ZVX
def ZVZ:okP ZOo 20000 19 [ZQ3] (.bool true)=true:=by decide +kernel
def ZW0:okP ZOo 20000 19 [ZQ4] (.bool true)=true:=by decide +kernel
def ZQD:List (List AV×AV):=[([ZQ3],(.bool true)),([ZQ4],(.bool true))]
def ZW1:∀p∈ZQD,pfn ZOo 19 p.1=some p.2:=by
 intro p hp;simp only[ZQD,ZWJ,ZYb,or_false]at hp;rcases hp with rfl|rfl
 .exact ZOp ZVZ
 .exact ZOp ZW0
def ZOX:Env:={ZOo with sum:=λf=>bif Nat.beq f 19 then some (ZOG<|ZPm ZQD)else bif Nat.beq f 30 then some (ZOG<|ZPm ZQC)else ZOo.sum f}
def ZW2:okP ZOX 20000 4 [] (.bool true)=true:=by decide +kernel
def ZW3:pfn ZOX 4 []=some (.bool true):=ZOp ZW2
end Go.AM
