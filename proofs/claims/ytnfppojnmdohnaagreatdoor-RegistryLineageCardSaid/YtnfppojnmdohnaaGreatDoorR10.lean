/- The code of the abstract machine is the code of the program, for RegistryLineage. No condition. -/
import Derived.Test.YtnfppojnmdohnaaGreatDoorA3
import Derived.Test.YtnfppojnmdohnaaGreatDoorC10
import Derived.Test.YtnfppojnmdohnaaGreatDoorProg
set_option linter.unusedVariables false
set_option linter.unusedSimpArgs false
set_option linter.defProp false
namespace Go.Proofs.YtnfppojnmdohnaaGreatDoor
open Go Go.AM
open Tryz
def Cc (P:Program) (fn:Func) (q:AFun):Bool:=!(fn.name=="runtime.NumGoroutine")&&match fn.body with | some c=>QZ P fn.ntmps false c q.body&&YJ P fn.results.toList q.res | none=>false
def Z0 (P:Program) (f:Nat) (q:AFun):Prop:=∃ (fn:Func) (c:Code),P.funcs[f]? = some fn∧(fn.name=="runtime.NumGoroutine")=false∧fn.body=some c∧QZ P fn.ntmps false c q.body=true∧YJ P fn.results.toList q.res=true
theorem Z1 {P:Program} {f:Nat} {fn:Func} (q:AFun) (hf:P.funcs[f]? = some fn) (h:Cc P fn q=true):Z0 P f q:=by
 unfold Cc at h;rw [Bool.and_eq_true] at h;obtain ⟨h1,h2⟩:=h;cases hb:fn.body with
 | none=>rw [hb] at h2;cases h2
 | some c=>
  rw [hb] at h2;simp only [Bool.and_eq_true] at h2;exact ⟨fn,c,hf,by simpa using h1,hb,h2.1,h2.2⟩
def OkL (P:Program):List (Nat×AFun)→Prop
 | []=>True
 | p::r=>Z0 P p.1 p.2∧OkL P r
def ZnD:=Z1 a10 func10 (by kernel_rfl)
def Zk2:=Z1 a30 func30 (by kernel_rfl)
def Zk3:=Z1 a31 func31 (by kernel_rfl)
def Zk4:=Z1 a32 func32 (by kernel_rfl)
def Zk5:=Z1 a33 func33 (by kernel_rfl)
def Zk6:=Z1 a34 func34 (by kernel_rfl)
def Zkb:=Z1 a39 func39 (by kernel_rfl)
def ZnE:=Z1 a42 func42 (by kernel_rfl)
def Zkc:=Z1 a43 func43 (by kernel_rfl)
def Zkd:=Z1 a44 func44 (by kernel_rfl)
def Zkf:=Z1 a58 func58 (by kernel_rfl)
def Zkg:=Z1 a59 func59 (by kernel_rfl)
def Zkh:=Z1 a61 func61 (by kernel_rfl)
def Zki:=Z1 a81 func81 (by kernel_rfl)
def Zkj:=Z1 a82 func82 (by kernel_rfl)
def Zkk:=Z1 a83 func83 (by kernel_rfl)
def Zkl:=Z1 a84 func84 (by kernel_rfl)
def Zkm:=Z1 a85 func85 (by kernel_rfl)
def Zkn:=Z1 a86 func86 (by kernel_rfl)
def Zko:=Z1 a87 func87 (by kernel_rfl)
def Zkp:=Z1 a88 func88 (by kernel_rfl)
def Zkq:=Z1 a89 func89 (by kernel_rfl)
def Zkr:=Z1 a90 func90 (by kernel_rfl)
def Zks:=Z1 a91 func91 (by kernel_rfl)
def Zkt:=Z1 a92 func92 (by kernel_rfl)
def Zku:=Z1 a93 func93 (by kernel_rfl)
def Zkv:=Z1 a94 func94 (by kernel_rfl)
def Zkw:=Z1 a95 func95 (by kernel_rfl)
def Zkx:=Z1 a96 func96 (by kernel_rfl)
def Zky:=Z1 a97 func97 (by kernel_rfl)
def Zkz:=Z1 a98 func98 (by kernel_rfl)
def ZkA:=Z1 a99 func99 (by kernel_rfl)
def ZkB:=Z1 a100 func100 (by kernel_rfl)
def ZkC:=Z1 a101 func101 (by kernel_rfl)
def ZkD:=Z1 a102 func102 (by kernel_rfl)
def ZkE:=Z1 a103 func103 (by kernel_rfl)
def ZkF:=Z1 a104 func104 (by kernel_rfl)
def ZkG:=Z1 a105 func105 (by kernel_rfl)
def ZkH:=Z1 a106 func106 (by kernel_rfl)
def ZkI:=Z1 a107 func107 (by kernel_rfl)
def ZkJ:=Z1 a108 func108 (by kernel_rfl)
def ZkM:=Z1 a111 func111 (by kernel_rfl)
def ZkN:=Z1 a112 func112 (by kernel_rfl)
def ZkO:=Z1 a126 func126 (by kernel_rfl)
def ZkP:=Z1 a127 func127 (by kernel_rfl)
def ZkQ:=Z1 a132 func132 (by kernel_rfl)
def ZkR:=Z1 a133 func133 (by kernel_rfl)
def ZkS:=Z1 a144 func144 (by kernel_rfl)
def ZkT:=Z1 a161 func161 (by kernel_rfl)
def ZkU:=Z1 a162 func162 (by kernel_rfl)
def ZkV:=Z1 a163 func163 (by kernel_rfl)
def ZkW:=Z1 a167 func167 (by kernel_rfl)
def ZkX:=Z1 a168 func168 (by kernel_rfl)
def ZkY:=Z1 a169 func169 (by kernel_rfl)
def ZkZ:=Z1 a170 func170 (by kernel_rfl)
def Zl0:=Z1 a171 func171 (by kernel_rfl)
def Zl1:=Z1 a172 func172 (by kernel_rfl)
def Zl2:=Z1 a173 func173 (by kernel_rfl)
def Zl3:=Z1 a174 func174 (by kernel_rfl)
def Zl4:=Z1 a175 func175 (by kernel_rfl)
def Zl5:=Z1 a176 func176 (by kernel_rfl)
def Zl6:=Z1 a177 func177 (by kernel_rfl)
def Zl7:=Z1 a178 func178 (by kernel_rfl)
def Zl8:=Z1 a179 func179 (by kernel_rfl)
def Zl9:=Z1 a180 func180 (by kernel_rfl)
def Zla:=Z1 a181 func181 (by kernel_rfl)
def Zlb:=Z1 a182 func182 (by kernel_rfl)
def Zlc:=Z1 a183 func183 (by kernel_rfl)
def Zld:=Z1 a184 func184 (by kernel_rfl)
def Zle:=Z1 a185 func185 (by kernel_rfl)
def Zlf:=Z1 a186 func186 (by kernel_rfl)
def Zlg:=Z1 a187 func187 (by kernel_rfl)
def Zlh:=Z1 a188 func188 (by kernel_rfl)
def Zli:=Z1 a189 func189 (by kernel_rfl)
def Zlj:=Z1 a190 func190 (by kernel_rfl)
def Zlk:=Z1 a191 func191 (by kernel_rfl)
def Zll:=Z1 a192 func192 (by kernel_rfl)
def Zlm:=Z1 a193 func193 (by kernel_rfl)
def Zln:=Z1 a194 func194 (by kernel_rfl)
def Zlo:=Z1 a195 func195 (by kernel_rfl)
def Zlp:=Z1 a196 func196 (by kernel_rfl)
def Zlq:=Z1 a197 func197 (by kernel_rfl)
def Zlr:=Z1 a198 func198 (by kernel_rfl)
def Zls:=Z1 a199 func199 (by kernel_rfl)
def Zlt:=Z1 a200 func200 (by kernel_rfl)
def Zlu:=Z1 a201 func201 (by kernel_rfl)
def Zlv:=Z1 a202 func202 (by kernel_rfl)
def Zlw:=Z1 a203 func203 (by kernel_rfl)
def Zlx:=Z1 a204 func204 (by kernel_rfl)
def Zly:=Z1 a205 func205 (by kernel_rfl)
def Zlz:=Z1 a206 func206 (by kernel_rfl)
def ZlA:=Z1 a207 func207 (by kernel_rfl)
def ZlB:=Z1 a208 func208 (by kernel_rfl)
def ZlC:=Z1 a209 func209 (by kernel_rfl)
def ZlD:=Z1 a210 func210 (by kernel_rfl)
def ZlE:=Z1 a211 func211 (by kernel_rfl)
def ZlF:=Z1 a212 func212 (by kernel_rfl)
def ZlG:=Z1 a213 func213 (by kernel_rfl)
def ZlH:=Z1 a214 func214 (by kernel_rfl)
def ZlI:=Z1 a215 func215 (by kernel_rfl)
def ZlJ:=Z1 a216 func216 (by kernel_rfl)
def ZlK:=Z1 a217 func217 (by kernel_rfl)
def ZlL:=Z1 a218 func218 (by kernel_rfl)
def ZlM:=Z1 a219 func219 (by kernel_rfl)
def ZlN:=Z1 a220 func220 (by kernel_rfl)
def ZlO:=Z1 a221 func221 (by kernel_rfl)
def ZlP:=Z1 a222 func222 (by kernel_rfl)
def ZlQ:=Z1 a233 func233 (by kernel_rfl)
def ZlR:=Z1 a234 func234 (by kernel_rfl)
def ZlS:=Z1 a235 func235 (by kernel_rfl)
def ZlT:=Z1 a236 func236 (by kernel_rfl)
def ZlU:=Z1 a246 func246 (by kernel_rfl)
def ZlV:=Z1 a247 func247 (by kernel_rfl)
def ZlW:=Z1 a248 func248 (by kernel_rfl)
def ZlX:=Z1 a261 func261 (by kernel_rfl)
def ZlY:=Z1 a262 func262 (by kernel_rfl)
def ZlZ:=Z1 a263 func263 (by kernel_rfl)
def Zm0:=Z1 a264 func264 (by kernel_rfl)
def Zm1:=Z1 a267 func267 (by kernel_rfl)
def Zm2:=Z1 a268 func268 (by kernel_rfl)
def Zm3:=Z1 a269 func269 (by kernel_rfl)
def Zm4:=Z1 a270 func270 (by kernel_rfl)
def Zm5:=Z1 a271 func271 (by kernel_rfl)
def Zm6:=Z1 a272 func272 (by kernel_rfl)
def Zm7:=Z1 a273 func273 (by kernel_rfl)
def Zm8:=Z1 a274 func274 (by kernel_rfl)
def Zm9:=Z1 a275 func275 (by kernel_rfl)
def Zma:=Z1 a276 func276 (by kernel_rfl)
def Zmb:=Z1 a277 func277 (by kernel_rfl)
def Zmc:=Z1 a278 func278 (by kernel_rfl)
def Zmd:=Z1 a279 func279 (by kernel_rfl)
def Zme:=Z1 a280 func280 (by kernel_rfl)
def Zmf:=Z1 a281 func281 (by kernel_rfl)
def Zmg:=Z1 a282 func282 (by kernel_rfl)
def Zmh:=Z1 a285 func285 (by kernel_rfl)
def Zmi:=Z1 a286 func286 (by kernel_rfl)
def Zmj:=Z1 a288 func288 (by kernel_rfl)
def Zmk:=Z1 a289 func289 (by kernel_rfl)
def Zml:=Z1 a291 func291 (by kernel_rfl)
def Zmm:=Z1 a292 func292 (by kernel_rfl)
def Zmn:=Z1 a295 func295 (by kernel_rfl)
def Zmo:=Z1 a296 func296 (by kernel_rfl)
def Zmp:=Z1 a297 func297 (by kernel_rfl)
def Zmq:=Z1 a298 func298 (by kernel_rfl)
def Zmr:=Z1 a299 func299 (by kernel_rfl)
def Zms:=Z1 a300 func300 (by kernel_rfl)
def Zmt:=Z1 a301 func301 (by kernel_rfl)
def Zmu:=Z1 a305 func305 (by kernel_rfl)
def Zmv:=Z1 a309 func309 (by kernel_rfl)
def Zmw:=Z1 a310 func310 (by kernel_rfl)
def Zmx:=Z1 a322 func322 (by kernel_rfl)
def Zmy:=Z1 a324 func324 (by kernel_rfl)
def Zmz:=Z1 a325 func325 (by kernel_rfl)
def ZmA:=Z1 a326 func326 (by kernel_rfl)
def ZmB:=Z1 a327 func327 (by kernel_rfl)
def ZmC:=Z1 a328 func328 (by kernel_rfl)
def ZmD:=Z1 a329 func329 (by kernel_rfl)
def ZmE:=Z1 a330 func330 (by kernel_rfl)
def ZmF:=Z1 a331 func331 (by kernel_rfl)
def ZmG:=Z1 a335 func335 (by kernel_rfl)
def ZmH:=Z1 a336 func336 (by kernel_rfl)
def ZmI:=Z1 a337 func337 (by kernel_rfl)
def ZmJ:=Z1 a338 func338 (by kernel_rfl)
def ZmK:=Z1 a339 func339 (by kernel_rfl)
def ZmL:=Z1 a340 func340 (by kernel_rfl)
def ZmM:=Z1 a341 func341 (by kernel_rfl)
def ZmN:=Z1 a358 func358 (by kernel_rfl)
def ZmO:=Z1 a366 func366 (by kernel_rfl)
def ZmP:=Z1 a367 func367 (by kernel_rfl)
def ZmQ:=Z1 a368 func368 (by kernel_rfl)
def ZmR:=Z1 a369 func369 (by kernel_rfl)
theorem ZmS:OkL Tryz.prog FN0:=⟨ZnD,Zk2,Zk3,Zk4,Zk5,Zk6,Zkb,ZnE,Zkc,Zkd,Zkf,Zkg,Zkh,Zki,trivial⟩
theorem ZmT:OkL Tryz.prog FN1:=⟨Zkj,Zkk,Zkl,Zkm,Zkn,Zko,Zkp,Zkq,Zkr,Zks,Zkt,Zku,Zkv,Zkw,trivial⟩
theorem ZmU:OkL Tryz.prog FN2:=⟨Zkx,Zky,Zkz,ZkA,ZkB,ZkC,ZkD,ZkE,ZkF,ZkG,ZkH,ZkI,ZkJ,ZkM,trivial⟩
theorem ZmV:OkL Tryz.prog FN3:=⟨ZkN,ZkO,ZkP,ZkQ,ZkR,ZkS,ZkT,ZkU,ZkV,ZkW,ZkX,ZkY,ZkZ,Zl0,trivial⟩
theorem ZmW:OkL Tryz.prog FN4:=⟨Zl1,Zl2,Zl3,Zl4,Zl5,Zl6,Zl7,Zl8,Zl9,Zla,Zlb,Zlc,Zld,Zle,trivial⟩
theorem ZmX:OkL Tryz.prog FN5:=⟨Zlf,Zlg,Zlh,Zli,Zlj,Zlk,Zll,Zlm,Zln,Zlo,Zlp,Zlq,Zlr,Zls,trivial⟩
theorem ZmY:OkL Tryz.prog FN6:=⟨Zlt,Zlu,Zlv,Zlw,Zlx,Zly,Zlz,ZlA,ZlB,ZlC,ZlD,ZlE,ZlF,ZlG,trivial⟩
theorem ZmZ:OkL Tryz.prog FN7:=⟨ZlH,ZlI,ZlJ,ZlK,ZlL,ZlM,ZlN,ZlO,ZlP,ZlQ,ZlR,ZlS,ZlT,ZlU,trivial⟩
theorem Zn0:OkL Tryz.prog FN8:=⟨ZlV,ZlW,ZlX,ZlY,ZlZ,Zm0,Zm1,Zm2,Zm3,Zm4,Zm5,Zm6,Zm7,Zm8,trivial⟩
theorem Zn1:OkL Tryz.prog FN9:=⟨Zm9,Zma,Zmb,Zmc,Zmd,Zme,Zmf,Zmg,Zmh,Zmi,Zmj,Zmk,Zml,Zmm,trivial⟩
theorem Zn2:OkL Tryz.prog ZjY:=⟨Zmn,Zmo,Zmp,Zmq,Zmr,Zms,Zmt,Zmu,Zmv,Zmw,Zmx,Zmy,Zmz,ZmA,trivial⟩
theorem Zn3:OkL Tryz.prog ZjZ:=⟨ZmB,ZmC,ZmD,ZmE,ZmF,ZmG,ZmH,ZmI,ZmJ,ZmK,ZmL,ZmM,ZmN,ZmO,trivial⟩
theorem Zn4:OkL Tryz.prog Zk0:=⟨ZmP,ZmQ,ZmR,trivial⟩
theorem brF {b:Bool} {x y:Option AFun} {q:AFun} {G:Prop} (h1:x=some q→G) (h2:y=some q→G) (h:(bif b then x else y)=some q):G:=by
 cases b with
 | true=>exact h1 h
 | false=>exact h2 h
theorem ZjX {P:Program} {f:Nat} {q:AFun}:∀ {l:List (Nat×AFun)},OkL P l→ZjW f l=some q→Z0 P f q
 | [],_,h=>by cases h
 | p::r,hl,h=>by
  unfold ZjW at h;rw [List.foldr_cons] at h;cases hb:Nat.beq f p.1 with
  | true=>
   rw [hb] at h;obtain rfl:=Option.some.inj h;rw [Nat.eq_of_beq_eq_true hb];exact hl.1
  | false=>
   rw [hb] at h;exact ZjX hl.2 h
theorem Z98 (f:Nat) (q:AFun) (h:N0 f=some q):Z0 Tryz.prog f q:=
 brF (ZjX ZmS) (brF (ZjX ZmT) (brF (ZjX ZmU) (brF (ZjX ZmV) (brF (ZjX ZmW) (brF (ZjX ZmX) (brF (ZjX ZmY) (brF (ZjX ZmZ) (brF (ZjX Zn0) (brF (ZjX Zn1) (brF (ZjX Zn2) (brF (ZjX Zn3) (ZjX Zn4)))))))))))) h
end Go.Proofs.YtnfppojnmdohnaaGreatDoor
