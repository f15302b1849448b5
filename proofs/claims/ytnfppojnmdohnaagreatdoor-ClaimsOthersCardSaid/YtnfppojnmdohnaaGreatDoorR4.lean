/- The code of the abstract machine is the code of the program, for ClaimsOthers. No condition. -/
import Derived.Test.YtnfppojnmdohnaaGreatDoorQ3
import Derived.Test.YtnfppojnmdohnaaGreatDoorC4
import Derived.Test.YtnfppojnmdohnaaGreatDoorProg
set_option linter.unusedVariables false
set_option linter.unusedSimpArgs false
set_option linter.defProp false
namespace Go.Proofs.YtnfppojnmdohnaaGreatDoor
open Go Go.AM
open Tryz
def Cc (P:Program) (fn:Func) (q:AFun):Bool:=!(fn.name=="runtime.NumGoroutine")&&match fn.body with | some c=>QZ P fn.ntmps false c q.body&&YJ P fn.results.toList q.res | none=>false
def Z0 (P:Program) (f:Nat) (q:AFun):Prop:=∃ (fn:Func) (c:Code),P.funcs[f]? = some fn∧(fn.name=="runtime.NumGoroutine")=false∧fn.body=some c∧QZ P fn.ntmps false c q.body=true∧YJ P fn.results.toList q.res=true
theorem Z1 {P:Program} {f:Nat} {fn:Func} (q:AFun) (hf:P.funcs[f]? = some fn) (h:Cc P fn q=true):Z0 P f q:=by
 unfold Cc at h;rw [Bool.and_eq_true] at h;obtain ⟨h1,h2⟩:=h;cases hb:fn.body with
 | none=>rw [hb] at h2;cases h2
 | some c=>
  rw [hb] at h2;simp only [Bool.and_eq_true] at h2;exact ⟨fn,c,hf,by simpa using h1,hb,h2.1,h2.2⟩
def OkL (P:Program):List (Nat×AFun)→Prop
 | []=>True
 | p::r=>Z0 P p.1 p.2∧OkL P r
def OK4:=Z1 a4 func4 (by kernel_rfl)
def Zre:=Z1 a19 func19 (by kernel_rfl)
def Zrf:=Z1 a20 func20 (by kernel_rfl)
def Zrg:=Z1 a21 func21 (by kernel_rfl)
def Zrh:=Z1 a23 func23 (by kernel_rfl)
def Zri:=Z1 a25 func25 (by kernel_rfl)
def Zrj:=Z1 a26 func26 (by kernel_rfl)
def Zrk:=Z1 a28 func28 (by kernel_rfl)
def Zk2:=Z1 a30 func30 (by kernel_rfl)
def Zk3:=Z1 a31 func31 (by kernel_rfl)
def Zkd:=Z1 a44 func44 (by kernel_rfl)
def Zrl:=Z1 a53 func53 (by kernel_rfl)
def Zrm:=Z1 a55 func55 (by kernel_rfl)
def Zrn:=Z1 a56 func56 (by kernel_rfl)
def Zro:=Z1 a57 func57 (by kernel_rfl)
def Zkf:=Z1 a58 func58 (by kernel_rfl)
def Zkg:=Z1 a59 func59 (by kernel_rfl)
def Zrp:=Z1 a60 func60 (by kernel_rfl)
def Zkh:=Z1 a61 func61 (by kernel_rfl)
def Zrq:=Z1 a62 func62 (by kernel_rfl)
def Zrr:=Z1 a65 func65 (by kernel_rfl)
def Zrs:=Z1 a66 func66 (by kernel_rfl)
def Zrt:=Z1 a69 func69 (by kernel_rfl)
def Zru:=Z1 a71 func71 (by kernel_rfl)
def Zrv:=Z1 a72 func72 (by kernel_rfl)
def Zrw:=Z1 a73 func73 (by kernel_rfl)
def Zrx:=Z1 a74 func74 (by kernel_rfl)
def Zki:=Z1 a81 func81 (by kernel_rfl)
def Zkj:=Z1 a82 func82 (by kernel_rfl)
def Zkk:=Z1 a83 func83 (by kernel_rfl)
def Zkl:=Z1 a84 func84 (by kernel_rfl)
def Zkm:=Z1 a85 func85 (by kernel_rfl)
def Zkn:=Z1 a86 func86 (by kernel_rfl)
def Zko:=Z1 a87 func87 (by kernel_rfl)
def Zkp:=Z1 a88 func88 (by kernel_rfl)
def Zkq:=Z1 a89 func89 (by kernel_rfl)
def Zkr:=Z1 a90 func90 (by kernel_rfl)
def Zks:=Z1 a91 func91 (by kernel_rfl)
def ZkM:=Z1 a111 func111 (by kernel_rfl)
def ZkN:=Z1 a112 func112 (by kernel_rfl)
def ZkO:=Z1 a126 func126 (by kernel_rfl)
def ZkP:=Z1 a127 func127 (by kernel_rfl)
def Zry:=Z1 a128 func128 (by kernel_rfl)
def Zrz:=Z1 a129 func129 (by kernel_rfl)
def ZrA:=Z1 a131 func131 (by kernel_rfl)
def ZkQ:=Z1 a132 func132 (by kernel_rfl)
def ZkR:=Z1 a133 func133 (by kernel_rfl)
def ZrB:=Z1 a134 func134 (by kernel_rfl)
def ZrC:=Z1 a136 func136 (by kernel_rfl)
def ZrD:=Z1 a139 func139 (by kernel_rfl)
def ZrE:=Z1 a140 func140 (by kernel_rfl)
def ZrF:=Z1 a141 func141 (by kernel_rfl)
def ZrG:=Z1 a142 func142 (by kernel_rfl)
def ZrH:=Z1 a143 func143 (by kernel_rfl)
def ZkS:=Z1 a144 func144 (by kernel_rfl)
def ZrI:=Z1 a145 func145 (by kernel_rfl)
def ZrJ:=Z1 a146 func146 (by kernel_rfl)
def ZkT:=Z1 a161 func161 (by kernel_rfl)
def ZkU:=Z1 a162 func162 (by kernel_rfl)
def ZkV:=Z1 a163 func163 (by kernel_rfl)
def ZkW:=Z1 a167 func167 (by kernel_rfl)
def ZkX:=Z1 a168 func168 (by kernel_rfl)
def ZkY:=Z1 a169 func169 (by kernel_rfl)
def ZkZ:=Z1 a170 func170 (by kernel_rfl)
def Zl0:=Z1 a171 func171 (by kernel_rfl)
def Zl1:=Z1 a172 func172 (by kernel_rfl)
def Zl2:=Z1 a173 func173 (by kernel_rfl)
def Zl3:=Z1 a174 func174 (by kernel_rfl)
def Zl4:=Z1 a175 func175 (by kernel_rfl)
def Zl5:=Z1 a176 func176 (by kernel_rfl)
def Zl6:=Z1 a177 func177 (by kernel_rfl)
def Zl7:=Z1 a178 func178 (by kernel_rfl)
def Zl8:=Z1 a179 func179 (by kernel_rfl)
def Zl9:=Z1 a180 func180 (by kernel_rfl)
def Zla:=Z1 a181 func181 (by kernel_rfl)
def Zlb:=Z1 a182 func182 (by kernel_rfl)
def Zlc:=Z1 a183 func183 (by kernel_rfl)
def Zld:=Z1 a184 func184 (by kernel_rfl)
def Zle:=Z1 a185 func185 (by kernel_rfl)
def Zlf:=Z1 a186 func186 (by kernel_rfl)
def Zlg:=Z1 a187 func187 (by kernel_rfl)
def Zlh:=Z1 a188 func188 (by kernel_rfl)
def Zli:=Z1 a189 func189 (by kernel_rfl)
def Zlj:=Z1 a190 func190 (by kernel_rfl)
def Zlk:=Z1 a191 func191 (by kernel_rfl)
def ZlA:=Z1 a207 func207 (by kernel_rfl)
def ZlP:=Z1 a222 func222 (by kernel_rfl)
def ZlQ:=Z1 a233 func233 (by kernel_rfl)
def ZlR:=Z1 a234 func234 (by kernel_rfl)
def ZlS:=Z1 a235 func235 (by kernel_rfl)
def ZlT:=Z1 a236 func236 (by kernel_rfl)
def ZrK:=Z1 a237 func237 (by kernel_rfl)
def ZrL:=Z1 a243 func243 (by kernel_rfl)
def ZrM:=Z1 a244 func244 (by kernel_rfl)
def ZrN:=Z1 a245 func245 (by kernel_rfl)
def ZlU:=Z1 a246 func246 (by kernel_rfl)
def ZlV:=Z1 a247 func247 (by kernel_rfl)
def ZlW:=Z1 a248 func248 (by kernel_rfl)
def ZrO:=Z1 a249 func249 (by kernel_rfl)
def ZlX:=Z1 a261 func261 (by kernel_rfl)
def ZlY:=Z1 a262 func262 (by kernel_rfl)
def ZlZ:=Z1 a263 func263 (by kernel_rfl)
def Zm0:=Z1 a264 func264 (by kernel_rfl)
def Zm1:=Z1 a267 func267 (by kernel_rfl)
def Zm2:=Z1 a268 func268 (by kernel_rfl)
def Zm3:=Z1 a269 func269 (by kernel_rfl)
def Zm4:=Z1 a270 func270 (by kernel_rfl)
def Zm5:=Z1 a271 func271 (by kernel_rfl)
def Zm6:=Z1 a272 func272 (by kernel_rfl)
def Zm7:=Z1 a273 func273 (by kernel_rfl)
def Zm8:=Z1 a274 func274 (by kernel_rfl)
def Zm9:=Z1 a275 func275 (by kernel_rfl)
def Zma:=Z1 a276 func276 (by kernel_rfl)
def Zmb:=Z1 a277 func277 (by kernel_rfl)
def Zmc:=Z1 a278 func278 (by kernel_rfl)
def Zmd:=Z1 a279 func279 (by kernel_rfl)
def Zme:=Z1 a280 func280 (by kernel_rfl)
def Zmi:=Z1 a286 func286 (by kernel_rfl)
def Zmn:=Z1 a295 func295 (by kernel_rfl)
def Zmo:=Z1 a296 func296 (by kernel_rfl)
def Zmp:=Z1 a297 func297 (by kernel_rfl)
def Zmq:=Z1 a298 func298 (by kernel_rfl)
def Zmr:=Z1 a299 func299 (by kernel_rfl)
def Zms:=Z1 a300 func300 (by kernel_rfl)
def Zmt:=Z1 a301 func301 (by kernel_rfl)
def Zmu:=Z1 a305 func305 (by kernel_rfl)
def Zmv:=Z1 a309 func309 (by kernel_rfl)
def Zmw:=Z1 a310 func310 (by kernel_rfl)
def Zmx:=Z1 a322 func322 (by kernel_rfl)
def Zmy:=Z1 a324 func324 (by kernel_rfl)
def Zmz:=Z1 a325 func325 (by kernel_rfl)
def ZmA:=Z1 a326 func326 (by kernel_rfl)
def ZmB:=Z1 a327 func327 (by kernel_rfl)
def ZmD:=Z1 a329 func329 (by kernel_rfl)
def ZmE:=Z1 a330 func330 (by kernel_rfl)
def ZmF:=Z1 a331 func331 (by kernel_rfl)
def ZmG:=Z1 a335 func335 (by kernel_rfl)
def ZmH:=Z1 a336 func336 (by kernel_rfl)
def ZmI:=Z1 a337 func337 (by kernel_rfl)
def ZmJ:=Z1 a338 func338 (by kernel_rfl)
def ZmK:=Z1 a339 func339 (by kernel_rfl)
def ZmL:=Z1 a340 func340 (by kernel_rfl)
def ZmM:=Z1 a341 func341 (by kernel_rfl)
def ZmN:=Z1 a358 func358 (by kernel_rfl)
def ZmO:=Z1 a366 func366 (by kernel_rfl)
def ZmP:=Z1 a367 func367 (by kernel_rfl)
def ZmQ:=Z1 a368 func368 (by kernel_rfl)
def ZmR:=Z1 a369 func369 (by kernel_rfl)
theorem ZmS:OkL Tryz.prog FN0:=⟨OK4,Zre,Zrf,Zrg,Zrh,Zri,Zrj,Zrk,Zk2,Zk3,Zkd,Zrl,Zrm,Zrn,trivial⟩
theorem ZmT:OkL Tryz.prog FN1:=⟨Zro,Zkf,Zkg,Zrp,Zkh,Zrq,Zrr,Zrs,Zrt,Zru,Zrv,Zrw,Zrx,Zki,trivial⟩
theorem ZmU:OkL Tryz.prog FN2:=⟨Zkj,Zkk,Zkl,Zkm,Zkn,Zko,Zkp,Zkq,Zkr,Zks,ZkM,ZkN,ZkO,ZkP,trivial⟩
theorem ZmV:OkL Tryz.prog FN3:=⟨Zry,Zrz,ZrA,ZkQ,ZkR,ZrB,ZrC,ZrD,ZrE,ZrF,ZrG,ZrH,ZkS,ZrI,trivial⟩
theorem ZmW:OkL Tryz.prog FN4:=⟨ZrJ,ZkT,ZkU,ZkV,ZkW,ZkX,ZkY,ZkZ,Zl0,Zl1,Zl2,Zl3,Zl4,Zl5,trivial⟩
theorem ZmX:OkL Tryz.prog FN5:=⟨Zl6,Zl7,Zl8,Zl9,Zla,Zlb,Zlc,Zld,Zle,Zlf,Zlg,Zlh,Zli,Zlj,trivial⟩
theorem ZmY:OkL Tryz.prog FN6:=⟨Zlk,ZlA,ZlP,ZlQ,ZlR,ZlS,ZlT,ZrK,ZrL,ZrM,ZrN,ZlU,ZlV,ZlW,trivial⟩
theorem ZmZ:OkL Tryz.prog FN7:=⟨ZrO,ZlX,ZlY,ZlZ,Zm0,Zm1,Zm2,Zm3,Zm4,Zm5,Zm6,Zm7,Zm8,Zm9,trivial⟩
theorem Zn0:OkL Tryz.prog FN8:=⟨Zma,Zmb,Zmc,Zmd,Zme,Zmi,Zmn,Zmo,Zmp,Zmq,Zmr,Zms,Zmt,Zmu,trivial⟩
theorem Zn1:OkL Tryz.prog FN9:=⟨Zmv,Zmw,Zmx,Zmy,Zmz,ZmA,ZmB,ZmD,ZmE,ZmF,ZmG,ZmH,ZmI,ZmJ,trivial⟩
theorem Zn2:OkL Tryz.prog ZjY:=⟨ZmK,ZmL,ZmM,ZmN,ZmO,ZmP,ZmQ,ZmR,trivial⟩
theorem brF {b:Bool} {x y:Option AFun} {q:AFun} {G:Prop} (h1:x=some q→G) (h2:y=some q→G) (h:(bif b then x else y)=some q):G:=by
 cases b with
 | true=>exact h1 h
 | false=>exact h2 h
theorem ZjX {P:Program} {f:Nat} {q:AFun}:∀ {l:List (Nat×AFun)},OkL P l→ZjW f l=some q→Z0 P f q
 | [],_,h=>by cases h
 | p::r,hl,h=>by
  unfold ZjW at h;rw [List.foldr_cons] at h;cases hb:Nat.beq f p.1 with
  | true=>
   rw [hb] at h;obtain rfl:=Option.some.inj h;rw [Nat.eq_of_beq_eq_true hb];exact hl.1
  | false=>
   rw [hb] at h;exact ZjX hl.2 h
theorem Z98 (f:Nat) (q:AFun) (h:N0 f=some q):Z0 Tryz.prog f q:=
 brF (ZjX ZmS) (brF (ZjX ZmT) (brF (ZjX ZmU) (brF (ZjX ZmV) (brF (ZjX ZmW) (brF (ZjX ZmX) (brF (ZjX ZmY) (brF (ZjX ZmZ) (brF (ZjX Zn0) (brF (ZjX Zn1) (ZjX Zn2)))))))))) h
end Go.Proofs.YtnfppojnmdohnaaGreatDoor
