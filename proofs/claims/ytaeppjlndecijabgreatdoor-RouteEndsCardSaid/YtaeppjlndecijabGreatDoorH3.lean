/- The head of RouteEnds is true: its examples, reckoned, part 1. No condition. -/
import Derived.Test.YtaeppjlndecijabGreatDoorP3d
import Derived.Test.YtaeppjlndecijabGreatDoorQ5
set_option linter.unusedVariables false
set_option linter.defProp false
set_option linter.unusedSimpArgs false
set_option linter.unusedSectionVars false
namespace Go.AM
open Go
@[reducible] def ZO8:REdz:=⟨none,none⟩
def ZQX(args:List AV):Option AV:=match args with|[.str s]=>some (Up s).val|_=>none
abbrev hzl:Nat->List AV->AV:=.isl false false
abbrev hzp(a b:Int):AV:=.agg [I a,I b]
abbrev hz0:AV:=.str ⟨#[101,49]⟩
abbrev hz1:AV:=.str ⟨#[115,49]⟩
abbrev hz2:AV:=.str ⟨#[99,50]⟩
abbrev hz3:AV:=.str ⟨#[109,49]⟩
abbrev hz4:AV:=.str ⟨#[98,49]⟩
abbrev hz5:AV:=.str ⟨#[101,50]⟩
abbrev hz6:AV:=.str ⟨#[101,57]⟩
abbrev hz7:AV:=.str ⟨#[97,110,110,97]⟩
abbrev hz8:AV:=.str ⟨#[101,51]⟩
abbrev hz9:AV:=.str ⟨#[97]⟩
def ZP4:AV:=hzl 2 [(.agg [hzl 1 [I 1],hzl 1 [(.str ⟨#[99,49]⟩)]]),(.agg [hzl 1 [I 0,I 2],hzl 1 []]),(.agg [hzl 1 [I 1],hzl 1 [hz2]])]
def ZT8:AV:=.agg<|[I 2,I 1,I 0]++List.replicate 61 (I 64)
def ZT9:AV:=.agg<|[I 1,I 0,I 1]++List.replicate 61 (I 64)
def ZTa:AV:=hzl 1 [I 3,I 9,I 3]
def ZQj:AV:=.agg [hzl 6 [],hzl 5 [],hzl 4 [],hzl 16 [],hzl 6 [],hzl 2 [],hzl 2 []]
def ZQk:AV:=.agg [I 1,I 0,I 1,I 0,I 0,hz3,.str emp,.str emp,hzl 1 [],hzl 3 [],I 0,.str emp,I 0,I 0,I 0,I 0,hzl 2 [hzp 0 0,hzp 20 0,hzp 20 20,hzp 0 20],hzl 7 []]
def ZPD:AV:=.agg [hzl 6 [(.agg [hz3,I 1,I 1,hzl 2 [hzp 0 0,hzp 20 0,hzp 20 20,hzp 0 20],hzl 3 [],I<|-1])],hzl 5 [],hzl 4 [],hzl 16 [],hzl 6 [],hzl 2 [],hzl 2 []]
def ZQl:AV:=.agg [I 1,I 0,I 3,I 0,I 0,hz2,.str emp,.str emp,hzl 1 [],hzl 3 [],I 0,.str emp,I 0,I 0,I 0,I 0,hzl 2 [hzp 0 0,hzp 20 0,hzp 20 20,hzp 0 20],hzl 7 []]
def ZPE:AV:=.agg [hzl 6 [(.agg [hz3,I 1,I 1,hzl 2 [hzp 0 0,hzp 20 0,hzp 20 20,hzp 0 20],hzl 3 [],I<|-1]),(.agg [hz2,I 3,I 1,hzl 2 [hzp 0 0,hzp 20 0,hzp 20 20,hzp 0 20],hzl 3 [],I<|-1])],hzl 5 [],hzl 4 [],hzl 16 [],hzl 6 [],hzl 2 [],hzl 2 []]
def ZQm:AV:=.agg [I 2,I 0,I 0,I 0,I 0,hz1,.str emp,.str emp,hzl 1 [],hzl 3 [],I 0,.str emp,I 0,I 0,I 0,I 0,hzl 2 [hzp 2 2,hzp 9 2],hzl 7 []]
def ZPF:AV:=.agg [hzl 6 [(.agg [hz3,I 1,I 1,hzl 2 [hzp 0 0,hzp 20 0,hzp 20 20,hzp 0 20],hzl 3 [],I<|-1]),(.agg [hz2,I 3,I 1,hzl 2 [hzp 0 0,hzp 20 0,hzp 20 20,hzp 0 20],hzl 3 [],I<|-1])],hzl 5 [(.agg [hz1,I 1,hzl 2 [hzp 2 2,hzp 9 2],hzl 3 [],I<|-1])],hzl 4 [],hzl 16 [],hzl 6 [],hzl 2 [],hzl 2 []]
def ZQn:AV:=.agg [I 5,I 0,I 0,I 0,I 0,hz4,.str emp,.str emp,hzl 1 [],hzl 3 [],I 0,.str emp,I 0,I 0,I 0,I 0,hzl 2 [hzp 4 0,hzp 8 0,hzp 8 4,hzp 4 4],hzl 7 []]
def ZPG:AV:=.agg [hzl 6 [(.agg [hz3,I 1,I 1,hzl 2 [hzp 0 0,hzp 20 0,hzp 20 20,hzp 0 20],hzl 3 [],I<|-1]),(.agg [hz2,I 3,I 1,hzl 2 [hzp 0 0,hzp 20 0,hzp 20 20,hzp 0 20],hzl 3 [],I<|-1])],hzl 5 [(.agg [hz1,I 1,hzl 2 [hzp 2 2,hzp 9 2],hzl 3 [],I<|-1])],hzl 4 [(.agg [hz4,I 1,hzl 2 [hzp 4 0,hzp 8 0,hzp 8 4,hzp 4 4],I<|-1])],hzl 16 [],hzl 6 [],hzl 2 [],hzl 2 []]
def ZQo:AV:=.agg [I 6,I 0,I 0,I 0,I 0,hz0,hz4,hz1,hzl 1 [],hzl 3 [],I 1,.str emp,I 0,I 0,I 4,I 4,hzl 2 [],hzl 7 []]
def ZOk:AV:=.agg [hzl 6 [(.agg [hz3,I 1,I 1,hzl 2 [hzp 0 0,hzp 20 0,hzp 20 20,hzp 0 20],hzl 3 [],I<|-1]),(.agg [hz2,I 3,I 1,hzl 2 [hzp 0 0,hzp 20 0,hzp 20 20,hzp 0 20],hzl 3 [],I<|-1])],hzl 5 [(.agg [hz1,I 1,hzl 2 [hzp 2 2,hzp 9 2],hzl 3 [],I<|-1])],hzl 4 [(.agg [hz4,I 1,hzl 2 [hzp 4 0,hzp 8 0,hzp 8 4,hzp 4 4],I<|-1])],hzl 16 [(.agg [hz0,hz4,hz1,I 1,I 1,.str emp,I 0,I 0,I 4,I 4,I 0,I<|-1,hzl 1 [],I 0,I 0,.str emp])],hzl 6 [],hzl 2 [],hzl 2 []]
def ZON:AV:=hzl 3 [(.agg [hz3,I 1,hzl 2 [hzp 0 0,hzp 20 0,hzp 20 20,hzp 0 20]]),(.agg [hz2,I 3,hzl 2 [hzp 0 0,hzp 20 0,hzp 20 20,hzp 0 20]])]
def ZQp:AV:=.agg [I 9,I 5,I 0,I 0,I 0,hz0,.str emp,.str emp,hzl 1 [],hzl 3 [],I 0,.str emp,I 0,I 0,I 0,I 0,hzl 2 [],hzl 7 [(.agg [hz5,I 1,.str emp,I 0,I 0,I 4,I 4]),(.agg [hz8,I 3,.str emp,I 0,I 0,I 5,I 4])]]
def ZOA:AV:=.agg [hzl 6 [(.agg [hz3,I 1,I 1,hzl 2 [hzp 0 0,hzp 20 0,hzp 20 20,hzp 0 20],hzl 3 [],I<|-1]),(.agg [hz2,I 3,I 1,hzl 2 [hzp 0 0,hzp 20 0,hzp 20 20,hzp 0 20],hzl 3 [],I<|-1])],hzl 5 [(.agg [hz1,I 1,hzl 2 [hzp 2 2,hzp 9 2],hzl 3 [],I<|-1])],hzl 4 [(.agg [hz4,I 1,hzl 2 [hzp 4 0,hzp 8 0,hzp 8 4,hzp 4 4],I<|-1])],hzl 16 [(.agg [hz0,hz4,hz1,I 1,I 1,.str emp,I 0,I 0,I 4,I 4,I 0,I 5,hzl 1 [hz5,hz8],I 9,I 0,.str emp]),(.agg [hz5,hz4,hz1,I 1,I 1,.str emp,I 0,I 0,I 4,I 4,I 5,I<|-1,hzl 1 [],I 0,I 0,.str emp]),(.agg [hz8,hz4,hz1,I 1,I 3,.str emp,I 0,I 0,I 5,I 4,I 5,I<|-1,hzl 1 [],I 0,I 0,.str emp])],hzl 6 [],hzl 2 [],hzl 2 []]
def ZQq:AV:=hzl 8 [(.agg [I 1,I 1,I 1,.str emp,hzl 18 [(.agg [I 1,I 0,I 1,I 0,I 0,hz3,.str emp,.str emp,hzl 1 [],hzl 3 [],I 0,.str emp,I 0,I 0,I 0,I 0,hzl 2 [hzp 0 0,hzp 20 0,hzp 20 20,hzp 0 20],hzl 7 []]),(.agg [I 1,I 0,I 3,I 0,I 0,hz2,.str emp,.str emp,hzl 1 [],hzl 3 [],I 0,.str emp,I 0,I 0,I 0,I 0,hzl 2 [hzp 0 0,hzp 20 0,hzp 20 20,hzp 0 20],hzl 7 []]),(.agg [I 2,I 0,I 0,I 0,I 0,hz1,.str emp,.str emp,hzl 1 [],hzl 3 [],I 0,.str emp,I 0,I 0,I 0,I 0,hzl 2 [hzp 2 2,hzp 9 2],hzl 7 []]),(.agg [I 5,I 0,I 0,I 0,I 0,hz4,.str emp,.str emp,hzl 1 [],hzl 3 [],I 0,.str emp,I 0,I 0,I 0,I 0,hzl 2 [hzp 4 0,hzp 8 0,hzp 8 4,hzp 4 4],hzl 7 []]),(.agg [I 6,I 0,I 0,I 0,I 0,hz0,hz4,hz1,hzl 1 [],hzl 3 [],I 1,.str emp,I 0,I 0,I 4,I 4,hzl 2 [],hzl 7 []])],I 0,hzl 1 [],hzl 1 []]),(.agg [I 1,I 2,I 9,.str emp,hzl 18 [(.agg [I 9,I 5,I 0,I 0,I 0,hz0,.str emp,.str emp,hzl 1 [],hzl 3 [],I 0,.str emp,I 0,I 0,I 0,I 0,hzl 2 [],hzl 7 [(.agg [hz5,I 1,.str emp,I 0,I 0,I 4,I 4]),(.agg [hz8,I 3,.str emp,I 0,I 0,I 5,I 4])]])],I 0,hzl 1 [],hzl 1 []])]
def ZTb:AV:=hzl 1 [I 0,I 0,I 0,I 0,I 0]
def ZTc:AV:=.agg [hzl 1 [hz0],hzl 3 []]
def ZTd:AV:=.agg [hz0,hz1,hz2,.str emp,hz3,I 1,.str emp,I 0,I 0,I 4,I 4]
def ZTe:AV:=hzl 1 [I 0,I 0,I 0,I 0,I 0,I 0]
def ZTf:AV:=.agg [hzl 1 [hz5,hz8],hzl 3 []]
def ZTg:AV:=.agg [hz5,hz1,hz2,.str emp,hz3,I 1,.str emp,I 0,I 0,I 4,I 4]
def ZQY:List (List AV×AV):=[([ZP4],(.bool true))]
def ZQZ:List (List AV×AV):=[([ZP4,I 2],ZT8),([ZP4,I 1],ZT9)]
def ZOF:Env:={ @rE ZO8 with sum:=λf=>bif Nat.beq f 22 then some (ZOc<|ZOp ZQZ)else bif Nat.beq f 30 then some (ZOc<|ZOp ZQY)else(@rE ZO8).sum f}
def hdQ:Env:={ZOF with fn:=λf=>bif Nat.beq f 18||(Nat.beq f 42||Nat.beq f 104)then ZQh f else N0 f,sum:=λf=>bif Nat.beq f 18 then none else bif Nat.beq f 43 then some ZP6 else(ZOF).sum f}
def ZR0:List (List AV×AV):=[([ZP4,ZTa],(.tup [I 4,I 0]))]
def ZPf:Env:={ZOF with sum:=λf=>bif Nat.beq f 7 then some (ZOc<|ZOp ZR0)else(ZOF).sum f}
def ZO4:Env:={ZPf with sum:=λf=>bif Nat.beq f 57 then some (ZOc ZQX)else ZPf.sum f}
def ZR1:List (List AV×AV):=[([ZQj,I 1,ZQk],(.int .i64 0)),([ZPD,I 1,ZQl],(.int .i64 0)),([ZPE,I 1,ZQm],(.int .i64 0)),([ZPF,I 1,ZQn],(.int .i64 0)),([ZPG,I 1,ZQo],(.int .i64 0)),([ZOk,I 1,ZQp],(.int .i64 0))]
def ZR2:List (List AV×AV):=[([ZQj,I 1,ZQk],(.tup [ZPD,I 0])),([ZPD,I 1,ZQl],(.tup [ZPE,I 0])),([ZPE,I 1,ZQm],(.tup [ZPF,I 0])),([ZPF,I 1,ZQn],(.tup [ZPG,I 0])),([ZPG,I 1,ZQo],(.tup [ZOk,I 0])),([ZOk,I 1,ZQp],(.tup [ZOA,I 0]))]
def ZR3:List (List AV×AV):=[([ZOk],(.bool true)),([ZOA],(.bool true))]
def ZR4:List (List AV×AV):=[([ZOk],ZON),([ZOA],ZON)]
def ZR5:List (List AV×AV):=[([ZON,I 3,hzp 4 4],(.tup [hz2,I 0])),([ZON,I 2,hzp 4 4],(.tup [.str emp,I 10])),([ZON,I 1,hzp 4 4],(.tup [hz3,I 0]))]
def ZO6:Env:={ZO4 with sum:=λf=>bif Nat.beq f 34 then some (ZOc<|ZOp ZR1)else bif Nat.beq f 35 then some (ZOc<|ZOp ZR2)else bif Nat.beq f 74 then some (ZOc<|ZOp ZR3)else bif Nat.beq f 288 then some (ZOc<|ZOp ZR4)else bif Nat.beq f 290 then some (ZOc<|ZOp ZR5)else(ZO4).sum f}
def ZR6:List (List AV×AV):=[([hzl 6 [],hz7,hz9,I 7],(.tup [hz9,hzl 1 [],I 0])),([hzl 6 [],hz7,hz0,I 7],(.tup [hz0,hzl 1 [],I 0])),([hzl 6 [],hz7,hz6,I 7],(.tup [hz6,hzl 1 [],I 0]))]
def ZR7:List (List AV×AV):=[([hz0],(.bool true)),([hz5],(.bool true)),([hz6],(.bool true))]
def ZR8:List (List AV×AV):=[([ZQq,I 7,I 3],(.tup [ZOk,ZTb])),([ZQq,I 7,I 9],(.tup [ZOA,ZTe]))]
def ZR9:List (List AV×AV):=[([ZOk,hz0],(.tup [ZTc,I 0])),([ZOA,hz0],(.tup [ZTf,I 0])),([ZOk,hz6],(.tup [(.agg [hzl 1 [],hzl 3 []]),I 10]))]
def ZRa:List (List AV×AV):=[([ZOk,hz0],(.tup [ZTd,I 0])),([ZOA,hz5],(.tup [ZTg,I 0]))]
def ZOG:Env:={ZO6 with sum:=λf=>bif Nat.beq f 14 then some (ZOc<|ZOp ZR7)else bif Nat.beq f 15 then some (ZOc<|ZOp ZR8)else bif Nat.beq f 31 then some (ZOc<|ZOp ZR6)else bif Nat.beq f 36 then some (ZOc<|ZOp ZR9)else bif Nat.beq f 101 then some (ZOc<|ZOp ZRa)else(ZO6).sum f}
end Go.AM
