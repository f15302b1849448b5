/- The head of TicketSomething is true: its examples, reckoned. No condition. -/
import Derived.Test.YtnjibjdmniajjaaGreatDoorP6a
set_option linter.unusedVariables false
set_option linter.defProp false
set_option linter.unusedSimpArgs false
set_option linter.unusedSectionVars false
namespace Go.AM
open Go
set_option maxRecDepth 1000000
@[reducible] def ZOy:REdz:=⟨none⟩
def ZPb(args:List AV):Option AV:=match args with|[.str s]=>some (Up s).val|_=>none
def ZO4:Env:={ @rE ZOy with sum:=λf=>bif Nat.beq f 55 then some (ZOd ZPb)else(@rE ZOy).sum f}
@[reducible] def hdI(n:Int):AV:=.int .i64 n
@[reducible] def hdT(l:Array UInt8):AV:=.str ⟨l⟩
@[reducible] def hdL(k:Nat)(l:List AV):AV:=.isl false false k l
@[reducible] def hdG(l:List AV):AV:=.agg l
def ZV0:AV:=(hdL 6 [(hdG [(hdT #[109,49]),(hdI 1),(hdI 1),(hdL 2 [(hdG [(hdI 0),(hdI 0)]),(hdG [(hdI 9),(hdI 0)]),(hdG [(hdI 9),(hdI 9)]),(hdG [(hdI 0),(hdI 9)])]),(hdL 3 []),(hdI<|-1)])])
def ZV3:AV:=(hdL 5 [(hdG [(hdT #[115,49]),(hdI 1),(hdL 2 [(hdG [(hdI 2),(hdI 2)]),(hdG [(hdI 7),(hdI 2)])]),(hdL 3 []),(hdI<|-1)])])
def ZV6:AV:=(hdL 4 [(hdG [(hdT #[98,49]),(hdI 1),(hdL 2 [(hdG [(hdI 2),(hdI 2)]),(hdG [(hdI 4),(hdI 2)]),(hdG [(hdI 2),(hdI 4)])]),(hdI<|-1)])])
def ZOS:AV:=(hdG [(hdL 6 []),(hdL 5 []),(hdL 4 []),(hdL 16 []),(hdL 6 []),(hdL 2 []),(hdL 2 [])])
def ZOT:AV:=(hdG [(hdI 1),(hdI 0),(hdI 1),(hdI 0),(hdI 0),(hdT #[109,49]),(hdT #[]),(hdT #[]),(hdL 1 []),(hdL 3 []),(hdI 0),(hdT #[]),(hdI 0),(hdI 0),(hdI 0),(hdI 0),(hdL 2 [(hdG [(hdI 0),(hdI 0)]),(hdG [(hdI 9),(hdI 0)]),(hdG [(hdI 9),(hdI 9)]),(hdG [(hdI 0),(hdI 9)])]),(hdL 7 [])])
def ZOz:AV:=(hdG [ZV0,(hdL 5 []),(hdL 4 []),(hdL 16 []),(hdL 6 []),(hdL 2 []),(hdL 2 [])])
def ZOU:AV:=(hdG [(hdI 2),(hdI 3),(hdI 0),(hdI 0),(hdI 0),(hdT #[115,49]),(hdT #[]),(hdT #[]),(hdL 1 []),(hdL 3 []),(hdI 0),(hdT #[]),(hdI 0),(hdI 0),(hdI 0),(hdI 0),(hdL 2 [(hdG [(hdI 2),(hdI 2)]),(hdG [(hdI 7),(hdI 2)])]),(hdL 7 [])])
def ZOA:AV:=(hdG [ZV0,ZV3,(hdL 4 []),(hdL 16 []),(hdL 6 []),(hdL 2 []),(hdL 2 [])])
def ZOV:AV:=(hdG [(hdI 5),(hdI 3),(hdI 0),(hdI 0),(hdI 0),(hdT #[98,49]),(hdT #[]),(hdT #[]),(hdL 1 []),(hdL 3 []),(hdI 0),(hdT #[]),(hdI 0),(hdI 0),(hdI 0),(hdI 0),(hdL 2 [(hdG [(hdI 2),(hdI 2)]),(hdG [(hdI 4),(hdI 2)]),(hdG [(hdI 2),(hdI 4)])]),(hdL 7 [])])
def ZOB:AV:=(hdG [ZV0,ZV3,ZV6,(hdL 16 []),(hdL 6 []),(hdL 2 []),(hdL 2 [])])
def ZOW:AV:=(hdG [(hdI 6),(hdI 3),(hdI 0),(hdI 0),(hdI 0),(hdT #[101,49]),(hdT #[98,49]),(hdT #[115,49]),(hdL 1 []),(hdL 3 []),(hdI 1),(hdT #[]),(hdI 0),(hdI 0),(hdI 2),(hdI 2),(hdL 2 []),(hdL 7 [])])
def ZOl:AV:=(hdG [ZV0,ZV3,ZV6,(hdL 16 [(hdG [(hdT #[101,49]),(hdT #[98,49]),(hdT #[115,49]),(hdI 1),(hdI 1),(hdT #[]),(hdI 0),(hdI 0),(hdI 2),(hdI 2),(hdI 3),(hdI<|-1),(hdL 1 []),(hdI 0),(hdI 0),(hdT #[])])]),(hdL 6 []),(hdL 2 []),(hdL 2 [])])
def ZOX:AV:=(hdG [(hdI 9),(hdI 7),(hdI 0),(hdI 0),(hdI 0),(hdT #[101,49]),(hdT #[]),(hdT #[]),(hdL 1 []),(hdL 3 []),(hdI 0),(hdT #[]),(hdI 0),(hdI 0),(hdI 0),(hdI 0),(hdL 2 []),(hdL 7 [(hdG [(hdT #[101,50]),(hdI 1),(hdT #[]),(hdI 0),(hdI 0),(hdI 2),(hdI 2)]),(hdG [(hdT #[101,51]),(hdI 3),(hdT #[]),(hdI 0),(hdI 0),(hdI 2),(hdI 2)])])])
def ZOY:AV:=(hdG [ZV0,ZV3,ZV6,(hdL 16 [(hdG [(hdT #[101,49]),(hdT #[98,49]),(hdT #[115,49]),(hdI 1),(hdI 1),(hdT #[]),(hdI 0),(hdI 0),(hdI 2),(hdI 2),(hdI 3),(hdI 7),(hdL 1 [(hdT #[101,50]),(hdT #[101,51])]),(hdI 9),(hdI 0),(hdT #[])]),(hdG [(hdT #[101,50]),(hdT #[98,49]),(hdT #[115,49]),(hdI 1),(hdI 1),(hdT #[]),(hdI 0),(hdI 0),(hdI 2),(hdI 2),(hdI 7),(hdI<|-1),(hdL 1 []),(hdI 0),(hdI 0),(hdT #[])]),(hdG [(hdT #[101,51]),(hdT #[98,49]),(hdT #[115,49]),(hdI 1),(hdI 3),(hdT #[]),(hdI 0),(hdI 0),(hdI 2),(hdI 2),(hdI 7),(hdI<|-1),(hdL 1 []),(hdI 0),(hdI 0),(hdT #[])])]),(hdL 6 []),(hdL 2 []),(hdL 2 [])])
def ZR6:okP ZO4 20000 38 [ZOS,(hdI 1),ZOT] (hdI 0)=true:=by decide +kernel
def ZR7:okP ZO4 20000 38 [ZOz,(hdI 1),ZOU] (hdI 0)=true:=by decide +kernel
def ZR8:okP ZO4 20000 38 [ZOA,(hdI 1),ZOV] (hdI 0)=true:=by decide +kernel
def ZR9:okP ZO4 20000 38 [ZOB,(hdI 1),ZOW] (hdI 0)=true:=by decide +kernel
def ZRa:okP ZO4 20000 38 [ZOl,(hdI 1),ZOX] (hdI 0)=true:=by decide +kernel
def ZPc:List (List AV×AV):=[([ZOS,(hdI 1),ZOT],(hdI 0)),([ZOz,(hdI 1),ZOU],(hdI 0)),([ZOA,(hdI 1),ZOV],(hdI 0)),([ZOB,(hdI 1),ZOW],(hdI 0)),([ZOl,(hdI 1),ZOX],(hdI 0))]
def ZRb:∀p∈ZPc,pfn ZO4 38 p.1=some p.2:=by
 intro p hp;simp only[ZPc,ZSc,ZTC,or_false]at hp;rcases hp with rfl|rfl|rfl|rfl|rfl
 .exact ZOa ZR6
 .exact ZOa ZR7
 .exact ZOa ZR8
 .exact ZOa ZR9
 .exact ZOa ZRa
def ZRc:okP ZO4 20000 39 [ZOS,(hdI 1),ZOT] (.tup [ZOz,(hdI 0)])=true:=by decide +kernel
def ZRd:okP ZO4 20000 39 [ZOz,(hdI 1),ZOU] (.tup [ZOA,(hdI 0)])=true:=by decide +kernel
def ZRe:okP ZO4 20000 39 [ZOA,(hdI 1),ZOV] (.tup [ZOB,(hdI 0)])=true:=by decide +kernel
def ZRf:okP ZO4 20000 39 [ZOB,(hdI 1),ZOW] (.tup [ZOl,(hdI 0)])=true:=by decide +kernel
def ZRg:okP ZO4 20000 39 [ZOl,(hdI 1),ZOX] (.tup [ZOY,(hdI 0)])=true:=by decide +kernel
def ZPd:List (List AV×AV):=[([ZOS,(hdI 1),ZOT],(.tup [ZOz,(hdI 0)])),([ZOz,(hdI 1),ZOU],(.tup [ZOA,(hdI 0)])),([ZOA,(hdI 1),ZOV],(.tup [ZOB,(hdI 0)])),([ZOB,(hdI 1),ZOW],(.tup [ZOl,(hdI 0)])),([ZOl,(hdI 1),ZOX],(.tup [ZOY,(hdI 0)]))]
def ZRh:∀p∈ZPd,pfn ZO4 39 p.1=some p.2:=by
 intro p hp;simp only[ZPd,ZSc,ZTC,or_false]at hp;rcases hp with rfl|rfl|rfl|rfl|rfl
 .exact ZOa ZRc
 .exact ZOa ZRd
 .exact ZOa ZRe
 .exact ZOa ZRf
 .exact ZOa ZRg
def ZRi:okP ZO4 20000 77 [ZOl] (.bool true)=true:=by decide +kernel
def ZRj:okP ZO4 20000 77 [ZOY] (.bool true)=true:=by decide +kernel
def ZPe:List (List AV×AV):=[([ZOl],(.bool true)),([ZOY],(.bool true))]
def ZRk:∀p∈ZPe,pfn ZO4 77 p.1=some p.2:=by
 intro p hp;simp only[ZPe,ZSc,ZTC,or_false]at hp;rcases hp with rfl|rfl
 .exact ZOa ZRi
 .exact ZOa ZRj
def ZOZ:Env:={ZO4 with sum:=λf=>bif Nat.beq f 38 then some (ZOd<|ZOD ZPc)else bif Nat.beq f 39 then some (ZOd<|ZOD ZPd)else bif Nat.beq f 77 then some (ZOd<|ZOD ZPe)else ZO4.sum f}
def ZRl:okP ZOZ 20000 8 [] (.bool true)=true:=by decide +kernel
def ZRm:pfn ZOZ 8 []=some (.bool true):=ZOa ZRl
end Go.AM
