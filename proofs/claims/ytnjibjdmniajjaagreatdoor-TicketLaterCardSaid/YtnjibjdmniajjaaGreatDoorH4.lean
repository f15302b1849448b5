/- The head of TicketLater is true: its examples, reckoned. No condition. -/
import Derived.Test.YtnjibjdmniajjaaGreatDoorP4a
set_option linter.unusedVariables false
set_option linter.defProp false
set_option linter.unusedSimpArgs false
set_option linter.unusedSectionVars false
namespace Go.AM
open Go
set_option maxRecDepth 1000000
@[reducible] def ZOg:REdz:=⟨none⟩
def ZPi(args:List AV):Option AV:=match args with|[.str s]=>some (Up s).val|_=>none
def ZO2:Env:={ @rE ZOg with sum:=λf=>bif Nat.beq f 55 then some (ZOe ZPi)else(@rE ZOg).sum f}
@[reducible] def hdI(n:Int):AV:=.int .i64 n
@[reducible] def hdT(l:Array UInt8):AV:=.str ⟨l⟩
@[reducible] def hdL(k:Nat)(l:List AV):AV:=.isl false false k l
@[reducible] def hdG(l:List AV):AV:=.agg l
def ZOF:AV:=(hdL 6 [(hdG [(hdT #[109,49]),(hdI 1),(hdI 1),(hdL 2 [(hdG [(hdI 0),(hdI 0)]),(hdG [(hdI 9),(hdI 0)]),(hdG [(hdI 9),(hdI 9)]),(hdG [(hdI 0),(hdI 9)])]),(hdL 3 []),(hdI<|-1)])])
def ZOU:AV:=(hdL 5 [(hdG [(hdT #[115,49]),(hdI 1),(hdL 2 [(hdG [(hdI 2),(hdI 2)]),(hdG [(hdI 7),(hdI 2)])]),(hdL 3 []),(hdI<|-1)])])
def ZPj:AV:=(hdL 4 [(hdG [(hdT #[98,49]),(hdI 1),(hdL 2 [(hdG [(hdI 2),(hdI 2)]),(hdG [(hdI 4),(hdI 2)]),(hdG [(hdI 2),(hdI 4)])]),(hdI<|-1)])])
def ZOV:AV:=(hdG [(hdL 6 []),(hdL 5 []),(hdL 4 []),(hdL 16 []),(hdL 6 []),(hdL 2 []),(hdL 2 [])])
def ZOW:AV:=(hdG [(hdI 1),(hdI 0),(hdI 1),(hdI 0),(hdI 0),(hdT #[109,49]),(hdT #[]),(hdT #[]),(hdL 1 []),(hdL 3 []),(hdI 0),(hdT #[]),(hdI 0),(hdI 0),(hdI 0),(hdI 0),(hdL 2 [(hdG [(hdI 0),(hdI 0)]),(hdG [(hdI 9),(hdI 0)]),(hdG [(hdI 9),(hdI 9)]),(hdG [(hdI 0),(hdI 9)])]),(hdL 7 [])])
def ZOx:AV:=(hdG [ZOF,(hdL 5 []),(hdL 4 []),(hdL 16 []),(hdL 6 []),(hdL 2 []),(hdL 2 [])])
def ZOX:AV:=(hdG [(hdI 2),(hdI 3),(hdI 0),(hdI 0),(hdI 0),(hdT #[115,49]),(hdT #[]),(hdT #[]),(hdL 1 []),(hdL 3 []),(hdI 0),(hdT #[]),(hdI 0),(hdI 0),(hdI 0),(hdI 0),(hdL 2 [(hdG [(hdI 2),(hdI 2)]),(hdG [(hdI 7),(hdI 2)])]),(hdL 7 [])])
def ZOy:AV:=(hdG [ZOF,ZOU,(hdL 4 []),(hdL 16 []),(hdL 6 []),(hdL 2 []),(hdL 2 [])])
def ZOY:AV:=(hdG [(hdI 5),(hdI 3),(hdI 0),(hdI 0),(hdI 0),(hdT #[98,49]),(hdT #[]),(hdT #[]),(hdL 1 []),(hdL 3 []),(hdI 0),(hdT #[]),(hdI 0),(hdI 0),(hdI 0),(hdI 0),(hdL 2 [(hdG [(hdI 2),(hdI 2)]),(hdG [(hdI 4),(hdI 2)]),(hdG [(hdI 2),(hdI 4)])]),(hdL 7 [])])
def ZOz:AV:=(hdG [ZOF,ZOU,ZPj,(hdL 16 []),(hdL 6 []),(hdL 2 []),(hdL 2 [])])
def ZOZ:AV:=(hdG [(hdI 6),(hdI 3),(hdI 0),(hdI 0),(hdI 0),(hdT #[101,49]),(hdT #[98,49]),(hdT #[115,49]),(hdL 1 []),(hdL 3 []),(hdI 1),(hdT #[]),(hdI 0),(hdI 0),(hdI 2),(hdI 2),(hdL 2 []),(hdL 7 [])])
def ZOm:AV:=(hdG [ZOF,ZOU,ZPj,(hdL 16 [(hdG [(hdT #[101,49]),(hdT #[98,49]),(hdT #[115,49]),(hdI 1),(hdI 1),(hdT #[]),(hdI 0),(hdI 0),(hdI 2),(hdI 2),(hdI 3),(hdI<|-1),(hdL 1 []),(hdI 0),(hdI 0),(hdT #[])])]),(hdL 6 []),(hdL 2 []),(hdL 2 [])])
def ZP0:AV:=(hdG [(hdI 9),(hdI 7),(hdI 0),(hdI 0),(hdI 0),(hdT #[101,49]),(hdT #[]),(hdT #[]),(hdL 1 []),(hdL 3 []),(hdI 0),(hdT #[]),(hdI 0),(hdI 0),(hdI 0),(hdI 0),(hdL 2 []),(hdL 7 [(hdG [(hdT #[101,50]),(hdI 1),(hdT #[]),(hdI 0),(hdI 0),(hdI 2),(hdI 2)]),(hdG [(hdT #[101,51]),(hdI 3),(hdT #[]),(hdI 0),(hdI 0),(hdI 2),(hdI 2)])])])
def ZP1:AV:=(hdG [ZOF,ZOU,ZPj,(hdL 16 [(hdG [(hdT #[101,49]),(hdT #[98,49]),(hdT #[115,49]),(hdI 1),(hdI 1),(hdT #[]),(hdI 0),(hdI 0),(hdI 2),(hdI 2),(hdI 3),(hdI 7),(hdL 1 [(hdT #[101,50]),(hdT #[101,51])]),(hdI 9),(hdI 0),(hdT #[])]),(hdG [(hdT #[101,50]),(hdT #[98,49]),(hdT #[115,49]),(hdI 1),(hdI 1),(hdT #[]),(hdI 0),(hdI 0),(hdI 2),(hdI 2),(hdI 7),(hdI<|-1),(hdL 1 []),(hdI 0),(hdI 0),(hdT #[])]),(hdG [(hdT #[101,51]),(hdT #[98,49]),(hdT #[115,49]),(hdI 1),(hdI 3),(hdT #[]),(hdI 0),(hdI 0),(hdI 2),(hdI 2),(hdI 7),(hdI<|-1),(hdL 1 []),(hdI 0),(hdI 0),(hdT #[])])]),(hdL 6 []),(hdL 2 []),(hdL 2 [])])
def ZRt:okP ZO2 20000 38 [ZOV,(hdI 1),ZOW] (hdI 0)=true:=by decide +kernel
def ZRu:okP ZO2 20000 38 [ZOx,(hdI 1),ZOX] (hdI 0)=true:=by decide +kernel
def ZRv:okP ZO2 20000 38 [ZOy,(hdI 1),ZOY] (hdI 0)=true:=by decide +kernel
def ZRw:okP ZO2 20000 38 [ZOz,(hdI 1),ZOZ] (hdI 0)=true:=by decide +kernel
def ZRx:okP ZO2 20000 38 [ZOm,(hdI 1),ZP0] (hdI 0)=true:=by decide +kernel
def ZPk:List (List AV×AV):=[([ZOV,(hdI 1),ZOW],(hdI 0)),([ZOx,(hdI 1),ZOX],(hdI 0)),([ZOy,(hdI 1),ZOY],(hdI 0)),([ZOz,(hdI 1),ZOZ],(hdI 0)),([ZOm,(hdI 1),ZP0],(hdI 0))]
def ZRy:∀p∈ZPk,pfn ZO2 38 p.1=some p.2:=by
 intro p hp;simp only[ZPk,ZST,ZUj,or_false]at hp;rcases hp with rfl|rfl|rfl|rfl|rfl
 .exact ZO7 ZRt
 .exact ZO7 ZRu
 .exact ZO7 ZRv
 .exact ZO7 ZRw
 .exact ZO7 ZRx
def ZRz:okP ZO2 20000 39 [ZOV,(hdI 1),ZOW] (.tup [ZOx,(hdI 0)])=true:=by decide +kernel
def ZRA:okP ZO2 20000 39 [ZOx,(hdI 1),ZOX] (.tup [ZOy,(hdI 0)])=true:=by decide +kernel
def ZRB:okP ZO2 20000 39 [ZOy,(hdI 1),ZOY] (.tup [ZOz,(hdI 0)])=true:=by decide +kernel
def ZRC:okP ZO2 20000 39 [ZOz,(hdI 1),ZOZ] (.tup [ZOm,(hdI 0)])=true:=by decide +kernel
def ZRD:okP ZO2 20000 39 [ZOm,(hdI 1),ZP0] (.tup [ZP1,(hdI 0)])=true:=by decide +kernel
def ZPl:List (List AV×AV):=[([ZOV,(hdI 1),ZOW],(.tup [ZOx,(hdI 0)])),([ZOx,(hdI 1),ZOX],(.tup [ZOy,(hdI 0)])),([ZOy,(hdI 1),ZOY],(.tup [ZOz,(hdI 0)])),([ZOz,(hdI 1),ZOZ],(.tup [ZOm,(hdI 0)])),([ZOm,(hdI 1),ZP0],(.tup [ZP1,(hdI 0)]))]
def ZRE:∀p∈ZPl,pfn ZO2 39 p.1=some p.2:=by
 intro p hp;simp only[ZPl,ZST,ZUj,or_false]at hp;rcases hp with rfl|rfl|rfl|rfl|rfl
 .exact ZO7 ZRz
 .exact ZO7 ZRA
 .exact ZO7 ZRB
 .exact ZO7 ZRC
 .exact ZO7 ZRD
def ZRF:okP ZO2 20000 77 [ZOm] (.bool true)=true:=by decide +kernel
def ZRG:okP ZO2 20000 77 [ZP1] (.bool true)=true:=by decide +kernel
def ZPm:List (List AV×AV):=[([ZOm],(.bool true)),([ZP1],(.bool true))]
def ZRH:∀p∈ZPm,pfn ZO2 77 p.1=some p.2:=by
 intro p hp;simp only[ZPm,ZST,ZUj,or_false]at hp;rcases hp with rfl|rfl
 .exact ZO7 ZRF
 .exact ZO7 ZRG
def ZOh:Env:={ZO2 with sum:=λf=>bif Nat.beq f 38 then some (ZOe<|ZOC ZPk)else bif Nat.beq f 39 then some (ZOe<|ZOC ZPl)else bif Nat.beq f 77 then some (ZOe<|ZOC ZPm)else ZO2.sum f}
def ZRI:okP ZOh 20000 8 [] (.bool true)=true:=by decide +kernel
def ZRJ:pfn ZOh 8 []=some (.bool true):=ZO7 ZRI
end Go.AM
