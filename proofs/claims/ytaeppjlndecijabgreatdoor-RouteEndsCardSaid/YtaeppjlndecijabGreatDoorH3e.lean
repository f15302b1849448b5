/- The head of RouteEnds is true: its examples, reckoned, part 6. No condition. -/
import Derived.Test.YtaeppjlndecijabGreatDoorH3a
import Derived.Test.YtaeppjlndecijabGreatDoorH3b
import Derived.Test.YtaeppjlndecijabGreatDoorH3c
import Derived.Test.YtaeppjlndecijabGreatDoorH3d
set_option linter.unusedVariables false
set_option linter.defProp false
set_option linter.unusedSimpArgs false
set_option linter.unusedSectionVars false
namespace Go.AM
open Go
def ZWw:∀p∈ZQY,pfn (@rE ZO8) 30 p.1=some p.2:=by
 intro p hp;simp only[ZQY,ZXF,ZY1,or_false]at hp;rcases hp with rfl
 .exact ZO3 ZVV
def ZWx:∀p∈ZQZ,pfn (@rE ZO8) 22 p.1=some p.2:=by
 intro p hp;simp only[ZQZ,ZXF,ZY1,or_false]at hp;rcases hp with rfl|rfl
 .exact ZO3 ZW5
 .exact ZO3 ZWe
def ZWy:∀p∈ZR0,pfn hdQ 7 p.1=some p.2:=by
 intro p hp;simp only[ZR0,ZXF,ZY1,or_false]at hp;rcases hp with rfl
 .exact ZO3 ZWn
def ZWz:∀p∈ZR1,pfn ZO4 34 p.1=some p.2:=by
 intro p hp;simp only[ZR1,ZXF,ZY1,or_false]at hp;rcases hp with rfl|rfl|rfl|rfl|rfl|rfl
 .exact ZO3 ZVW
 .exact ZO3 ZW6
 .exact ZO3 ZWf
 .exact ZO3 ZWo
 .exact ZO3 ZVX
 .exact ZO3 ZW7
def ZWA:∀p∈ZR2,pfn ZO4 35 p.1=some p.2:=by
 intro p hp;simp only[ZR2,ZXF,ZY1,or_false]at hp;rcases hp with rfl|rfl|rfl|rfl|rfl|rfl
 .exact ZO3 ZWg
 .exact ZO3 ZWp
 .exact ZO3 ZVY
 .exact ZO3 ZW8
 .exact ZO3 ZWh
 .exact ZO3 ZWq
def ZWB:∀p∈ZR3,pfn ZO4 74 p.1=some p.2:=by
 intro p hp;simp only[ZR3,ZXF,ZY1,or_false]at hp;rcases hp with rfl|rfl
 .exact ZO3 ZVZ
 .exact ZO3 ZW9
def ZWC:∀p∈ZR4,pfn ZO4 288 p.1=some p.2:=by
 intro p hp;simp only[ZR4,ZXF,ZY1,or_false]at hp;rcases hp with rfl|rfl
 .exact ZO3 ZWi
 .exact ZO3 ZWr
def ZWD:∀p∈ZR5,pfn ZO4 290 p.1=some p.2:=by
 intro p hp;simp only[ZR5,ZXF,ZY1,or_false]at hp;rcases hp with rfl|rfl|rfl
 .exact ZO3 ZW0
 .exact ZO3 ZWa
 .exact ZO3 ZWj
def ZWE:∀p∈ZR6,pfn ZO6 31 p.1=some p.2:=by
 intro p hp;simp only[ZR6,ZXF,ZY1,or_false]at hp;rcases hp with rfl|rfl|rfl
 .exact ZO3 ZWs
 .exact ZO3 ZW1
 .exact ZO3 ZWb
def ZWF:∀p∈ZR7,pfn ZO6 14 p.1=some p.2:=by
 intro p hp;simp only[ZR7,ZXF,ZY1,or_false]at hp;rcases hp with rfl|rfl|rfl
 .exact ZO3 ZWk
 .exact ZO3 ZWt
 .exact ZO3 ZW2
def ZWG:∀p∈ZR8,pfn ZO6 15 p.1=some p.2:=by
 intro p hp;simp only[ZR8,ZXF,ZY1,or_false]at hp;rcases hp with rfl|rfl
 .exact ZO3 ZWc
 .exact ZO3 ZWl
def ZWH:∀p∈ZR9,pfn ZO6 36 p.1=some p.2:=by
 intro p hp;simp only[ZR9,ZXF,ZY1,or_false]at hp;rcases hp with rfl|rfl|rfl
 .exact ZO3 ZWu
 .exact ZO3 ZW3
 .exact ZO3 ZWd
def ZWI:∀p∈ZRa,pfn ZO6 101 p.1=some p.2:=by
 intro p hp;simp only[ZRa,ZXF,ZY1,or_false]at hp;rcases hp with rfl|rfl
 .exact ZO3 ZWm
 .exact ZO3 ZWv
def ZWJ:pfn ZOG 4 []=some (.bool true):=ZO3 ZW4
end Go.AM
