/- The head of ClaimsMatchesReference is true: its examples, reckoned. No condition. -/
import Derived.Test.YtbnmnkpkjmoehaaGreatDoorP3a
set_option linter.unusedVariables false
set_option linter.defProp false
set_option linter.unusedSimpArgs false
set_option linter.unusedSectionVars false
namespace Go.AM
open Go
set_option maxRecDepth 1000000
@[reducible] def ZOH:REdz:=⟨none⟩
def ZQy(args:List AV):Option AV:=match args with|[.str s]=>some (Up s).val|_=>none
def ZOf:Env:={ @rE ZOH with sum:=λf=>bif Nat.beq f 168 then some (ZOr ZQy)else(@rE ZOH).sum f}
def ZOc:AV:=(.agg [(.isl false false 6 [(.agg [(.str ⟨#[97]⟩),(.int .i64 1),(.int .i64 1),(.isl false false 2 [(.agg [(.int .i64 0),(.int .i64 0)]),(.agg [(.int .i64 9),(.int .i64 0)]),(.agg [(.int .i64 9),(.int .i64 9)]),(.agg [(.int .i64 0),(.int .i64 9)])]),(.isl false false 3 []),(.int .i64<|-1)]),(.agg [(.str ⟨#[98]⟩),(.int .i64 1),(.int .i64 2),(.isl false false 2 [(.agg [(.int .i64 5),(.int .i64 0)]),(.agg [(.int .i64 15),(.int .i64 0)]),(.agg [(.int .i64 15),(.int .i64 9)]),(.agg [(.int .i64 5),(.int .i64 9)])]),(.isl false false 3 []),(.int .i64<|-1)])]),(.isl false false 5 [(.agg [(.str ⟨#[115]⟩),(.int .i64 1),(.isl false false 2 [(.agg [(.int .i64 0),(.int .i64 0)]),(.agg [(.int .i64 9),(.int .i64 0)])]),(.isl false false 3 []),(.int .i64<|-1)])]),(.isl false false 4 []),(.isl false false 16 []),(.isl false false 6 []),(.isl false false 2 []),(.isl false false 2 [])])
def ZQ3:AV:=(.agg [(.int .i64 5),(.int .i64 0),(.int .i64 0),(.int .i64 0),(.int .i64 0),(.str ⟨#[104,111,117,115,101]⟩),(.str ⟨#[]⟩),(.str ⟨#[]⟩),(.isl false false 1 []),(.isl false false 3 []),(.int .i64 0),(.str ⟨#[]⟩),(.int .i64 0),(.int .i64 0),(.int .i64 0),(.int .i64 0),(.isl false false 2 [(.agg [(.int .i64 1),(.int .i64 1)]),(.agg [(.int .i64 2),(.int .i64 1)]),(.agg [(.int .i64 1),(.int .i64 2)])]),(.isl false false 7 [])])
def ZP3:AV:=(.agg [(.int .i64 5),(.int .i64 0),(.int .i64 0),(.int .i64 0),(.int .i64 0),(.str ⟨#[104,111,117,115,101]⟩),(.str ⟨#[]⟩),(.str ⟨#[]⟩),(.isl false false 1 []),(.isl false false 3 []),(.int .i64 0),(.str ⟨#[]⟩),(.int .i64 0),(.int .i64 0),(.int .i64 0),(.int .i64 0),(.isl false false 2 [(.agg [(.int .i64 6),(.int .i64 1)]),(.agg [(.int .i64 7),(.int .i64 1)]),(.agg [(.int .i64 6),(.int .i64 2)])]),(.isl false false 7 [])])
def ZQ4:AV:=(.agg [(.int .i64 5),(.int .i64 0),(.int .i64 0),(.int .i64 0),(.int .i64 0),(.str ⟨#[104,111,117,115,101]⟩),(.str ⟨#[]⟩),(.str ⟨#[]⟩),(.isl false false 1 []),(.isl false false 3 []),(.int .i64 0),(.str ⟨#[]⟩),(.int .i64 0),(.int .i64 0),(.int .i64 0),(.int .i64 0),(.isl false false 2 [(.agg [(.int .i64 12),(.int .i64 1)]),(.agg [(.int .i64 13),(.int .i64 1)]),(.agg [(.int .i64 12),(.int .i64 2)])]),(.isl false false 7 [])])
def ZP4:AV:=(.agg [(.int .i64 12),(.int .i64 0),(.int .i64 0),(.int .i64 0),(.int .i64 0),(.str ⟨#[115]⟩),(.str ⟨#[]⟩),(.str ⟨#[]⟩),(.isl false false 1 []),(.isl false false 3 []),(.int .i64 0),(.str ⟨#[]⟩),(.int .i64 0),(.int .i64 0),(.int .i64 0),(.int .i64 0),(.isl false false 2 []),(.isl false false 7 [])])
def ZQ5:AV:=(.agg [(.int .i64 15),(.int .i64 0),(.int .i64 0),(.int .i64 0),(.int .i64 0),(.str ⟨#[104]⟩),(.str ⟨#[]⟩),(.str ⟨#[120]⟩),(.isl false false 1 []),(.isl false false 3 []),(.int .i64 0),(.str ⟨#[]⟩),(.int .i64 0),(.int .i64 0),(.int .i64 0),(.int .i64 0),(.isl false false 2 []),(.isl false false 7 [])])
def ZPt:AV:=(.agg [(.int .i64 14),(.int .i64 0),(.int .i64 2),(.int .i64 1),(.int .i64 0),(.str ⟨#[]⟩),(.str ⟨#[]⟩),(.str ⟨#[]⟩),(.isl false false 1 []),(.isl false false 3 []),(.int .i64 0),(.str ⟨#[]⟩),(.int .i64 0),(.int .i64 0),(.int .i64 0),(.int .i64 0),(.isl false false 2 []),(.isl false false 7 [])])
def ZOI:AV:=(.agg [(.isl false false 6 [(.agg [(.str ⟨#[97]⟩),(.int .i64 1),(.int .i64 1),(.isl false false 2 [(.agg [(.int .i64 0),(.int .i64 0)]),(.agg [(.int .i64 9),(.int .i64 0)]),(.agg [(.int .i64 9),(.int .i64 9)]),(.agg [(.int .i64 0),(.int .i64 9)])]),(.isl false false 3 []),(.int .i64<|-1)]),(.agg [(.str ⟨#[98]⟩),(.int .i64 1),(.int .i64 2),(.isl false false 2 [(.agg [(.int .i64 5),(.int .i64 0)]),(.agg [(.int .i64 15),(.int .i64 0)]),(.agg [(.int .i64 15),(.int .i64 9)]),(.agg [(.int .i64 5),(.int .i64 9)])]),(.isl false false 3 []),(.int .i64<|-1)])]),(.isl false false 5 [(.agg [(.str ⟨#[115]⟩),(.int .i64 1),(.isl false false 2 [(.agg [(.int .i64 0),(.int .i64 0)]),(.agg [(.int .i64 9),(.int .i64 0)])]),(.isl false false 3 []),(.int .i64<|-1)])]),(.isl false false 4 []),(.isl false false 16 []),(.isl false false 6 []),(.isl false false 2 []),(.isl false false 2 [(.agg [(.int .i64 2),(.int .i64 1)])])])
def ZP5:AV:=(.agg [(.isl false false 6 [(.agg [(.str ⟨#[97]⟩),(.int .i64 1),(.int .i64 1),(.isl false false 2 [(.agg [(.int .i64 0),(.int .i64 0)]),(.agg [(.int .i64 9),(.int .i64 0)]),(.agg [(.int .i64 9),(.int .i64 9)]),(.agg [(.int .i64 0),(.int .i64 9)])]),(.isl false false 3 []),(.int .i64<|-1)]),(.agg [(.str ⟨#[98]⟩),(.int .i64 1),(.int .i64 2),(.isl false false 2 [(.agg [(.int .i64 5),(.int .i64 0)]),(.agg [(.int .i64 15),(.int .i64 0)]),(.agg [(.int .i64 15),(.int .i64 9)]),(.agg [(.int .i64 5),(.int .i64 9)])]),(.isl false false 3 []),(.int .i64<|-1)])]),(.isl false false 5 [(.agg [(.str ⟨#[115]⟩),(.int .i64 1),(.isl false false 2 [(.agg [(.int .i64 0),(.int .i64 0)]),(.agg [(.int .i64 9),(.int .i64 0)])]),(.isl false false 3 []),(.int .i64<|-1)])]),(.isl false false 4 []),(.isl false false 16 []),(.isl false false 6 []),(.isl false false 2 [(.agg [(.int .i64 1),(.int .i64 2)])]),(.isl false false 2 [(.agg [(.int .i64 2),(.int .i64 1)])])])
def ZVt:okP ZOf 20000 45 [ZOc] (.bool true)=true:=by decide +kernel
def ZVu:okP ZOf 20000 45 [ZOI] (.bool true)=true:=by decide +kernel
def ZVv:okP ZOf 20000 45 [ZP5] (.bool true)=true:=by decide +kernel
def ZQz:List (List AV×AV):=[([ZOc],(.bool true)),([ZOI],(.bool true)),([ZP5],(.bool true))]
def ZVw:∀p∈ZQz,pfn ZOf 45 p.1=some p.2:=by
 intro p hp;simp only[ZQz,ZWF,ZXt,or_false]at hp;rcases hp with rfl|rfl|rfl
 .exact ZO8 ZVt
 .exact ZO8 ZVu
 .exact ZO8 ZVv
def ZVx:okP ZOf 20000 31 [ZQ3] (.bool true)=true:=by decide +kernel
def ZVy:okP ZOf 20000 31 [ZP3] (.bool true)=true:=by decide +kernel
def ZVz:okP ZOf 20000 31 [ZQ4] (.bool true)=true:=by decide +kernel
def ZVA:okP ZOf 20000 31 [ZP4] (.bool true)=true:=by decide +kernel
def ZVB:okP ZOf 20000 31 [ZQ5] (.bool true)=true:=by decide +kernel
def ZVC:okP ZOf 20000 31 [ZPt] (.bool true)=true:=by decide +kernel
def ZQA:List (List AV×AV):=[([ZQ3],(.bool true)),([ZP3],(.bool true)),([ZQ4],(.bool true)),([ZP4],(.bool true)),([ZQ5],(.bool true)),([ZPt],(.bool true))]
def ZVD:∀p∈ZQA,pfn ZOf 31 p.1=some p.2:=by
 intro p hp;simp only[ZQA,ZWF,ZXt,or_false]at hp;rcases hp with rfl|rfl|rfl|rfl|rfl|rfl
 .exact ZO8 ZVx
 .exact ZO8 ZVy
 .exact ZO8 ZVz
 .exact ZO8 ZVA
 .exact ZO8 ZVB
 .exact ZO8 ZVC
def ZO7:Env:={ZOf with sum:=λf=>bif Nat.beq f 31 then some (ZOr<|ZOS ZQA)else bif Nat.beq f 45 then some (ZOr<|ZOS ZQz)else ZOf.sum f}
def ZVE:okP ZO7 20000 6 [ZOc,(.agg [(.int .i64 6),(.int .i64 1)])] (.tup [(.isl false false 1 [(.int .i64 1),(.int .i64 2)]),(.int .i64 0)])=true:=by decide +kernel
def ZVF:okP ZO7 20000 6 [ZOc,(.agg [(.int .i64 20),(.int .i64 1)])] (.tup [(.isl false false 1 []),(.int .i64 0)])=true:=by decide +kernel
def ZVG:okP ZO7 20000 6 [ZP5,(.agg [(.int .i64 6),(.int .i64 1)])] (.tup [(.isl false false 1 [(.int .i64 1)]),(.int .i64 0)])=true:=by decide +kernel
def ZQB:List (List AV×AV):=[([ZOc,(.agg [(.int .i64 6),(.int .i64 1)])],(.tup [(.isl false false 1 [(.int .i64 1),(.int .i64 2)]),(.int .i64 0)])),([ZOc,(.agg [(.int .i64 20),(.int .i64 1)])],(.tup [(.isl false false 1 []),(.int .i64 0)])),([ZP5,(.agg [(.int .i64 6),(.int .i64 1)])],(.tup [(.isl false false 1 [(.int .i64 1)]),(.int .i64 0)]))]
def ZVH:∀p∈ZQB,pfn ZO7 6 p.1=some p.2:=by
 intro p hp;simp only[ZQB,ZWF,ZXt,or_false]at hp;rcases hp with rfl|rfl|rfl
 .exact ZO8 ZVE
 .exact ZO8 ZVF
 .exact ZO8 ZVG
def ZVI:okP ZO7 20000 13 [ZOc,(.int .i64 1),ZQ3] (.int .i64 0)=true:=by decide +kernel
def ZVJ:okP ZO7 20000 13 [ZOc,(.int .i64 1),ZP3] (.int .i64 19)=true:=by decide +kernel
def ZVK:okP ZO7 20000 13 [ZOc,(.int .i64 1),ZQ4] (.int .i64 18)=true:=by decide +kernel
def ZVL:okP ZO7 20000 13 [ZOc,(.int .i64 2),ZP4] (.int .i64 18)=true:=by decide +kernel
def ZVM:okP ZO7 20000 13 [ZOc,(.int .i64 1),ZP4] (.int .i64 0)=true:=by decide +kernel
def ZVN:okP ZO7 20000 13 [ZOc,(.int .i64 3),ZQ5] (.int .i64 18)=true:=by decide +kernel
def ZVO:okP ZO7 20000 13 [ZOc,(.int .i64 0),ZPt] (.int .i64 0)=true:=by decide +kernel
def ZVP:okP ZO7 20000 13 [ZOc,(.int .i64 1),ZPt] (.int .i64 18)=true:=by decide +kernel
def ZVQ:okP ZO7 20000 13 [ZOI,(.int .i64 2),ZP3] (.int .i64 0)=true:=by decide +kernel
def ZVR:okP ZO7 20000 13 [ZOI,(.int .i64 1),ZP3] (.int .i64 19)=true:=by decide +kernel
def ZVS:okP ZO7 20000 13 [ZP5,(.int .i64 2),ZP4] (.int .i64 0)=true:=by decide +kernel
def ZQC:List (List AV×AV):=[([ZOc,(.int .i64 1),ZQ3],(.int .i64 0)),([ZOc,(.int .i64 1),ZP3],(.int .i64 19)),([ZOc,(.int .i64 1),ZQ4],(.int .i64 18)),([ZOc,(.int .i64 2),ZP4],(.int .i64 18)),([ZOc,(.int .i64 1),ZP4],(.int .i64 0)),([ZOc,(.int .i64 3),ZQ5],(.int .i64 18)),([ZOc,(.int .i64 0),ZPt],(.int .i64 0)),([ZOc,(.int .i64 1),ZPt],(.int .i64 18)),([ZOI,(.int .i64 2),ZP3],(.int .i64 0)),([ZOI,(.int .i64 1),ZP3],(.int .i64 19)),([ZP5,(.int .i64 2),ZP4],(.int .i64 0))]
def ZVT:∀p∈ZQC,pfn ZO7 13 p.1=some p.2:=by
 intro p hp;simp only[ZQC,ZWF,ZXt,or_false]at hp;rcases hp with rfl|rfl|rfl|rfl|rfl|rfl|rfl|rfl|rfl|rfl|rfl
 .exact ZO8 ZVI
 .exact ZO8 ZVJ
 .exact ZO8 ZVK
 .exact ZO8 ZVL
 .exact ZO8 ZVM
 .exact ZO8 ZVN
 .exact ZO8 ZVO
 .exact ZO8 ZVP
 .exact ZO8 ZVQ
 .exact ZO8 ZVR
 .exact ZO8 ZVS
def ZVU:okP ZO7 20000 11 [ZOI,(.int .i64 2),(.int .i64 1)] (.bool true)=true:=by decide +kernel
def ZVV:okP ZO7 20000 11 [ZOI,(.int .i64 1),(.int .i64 2)] (.bool false)=true:=by decide +kernel
def ZQD:List (List AV×AV):=[([ZOI,(.int .i64 2),(.int .i64 1)],(.bool true)),([ZOI,(.int .i64 1),(.int .i64 2)],(.bool false))]
def ZVW:∀p∈ZQD,pfn ZO7 11 p.1=some p.2:=by
 intro p hp;simp only[ZQD,ZWF,ZXt,or_false]at hp;rcases hp with rfl|rfl
 .exact ZO8 ZVU
 .exact ZO8 ZVV
def ZVX:okP ZO7 20000 8 [ZP5,(.int .i64 2)] (.int .i64 1)=true:=by decide +kernel
def ZQE:List (List AV×AV):=[([ZP5,(.int .i64 2)],(.int .i64 1))]
def ZVY:∀p∈ZQE,pfn ZO7 8 p.1=some p.2:=by
 intro p hp;simp only[ZQE,ZWF,ZXt,or_false]at hp;rcases hp with rfl
 .exact ZO8 ZVX
def ZOJ:Env:={ZO7 with sum:=λf=>bif Nat.beq f 6 then some (ZOr<|ZOS ZQB)else bif Nat.beq f 8 then some (ZOr<|ZOS ZQE)else bif Nat.beq f 11 then some (ZOr<|ZOS ZQD)else bif Nat.beq f 13 then some (ZOr<|ZOS ZQC)else ZO7.sum f}
def ZVZ:okP ZOJ 20000 4 [] (.bool true)=true:=by decide +kernel
def ZW0:pfn ZOJ 4 []=some (.bool true):=ZO8 ZVZ
end Go.AM
