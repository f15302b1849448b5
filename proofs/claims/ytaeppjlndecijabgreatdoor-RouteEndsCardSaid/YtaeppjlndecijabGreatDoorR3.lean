/- The code of the abstract machine is the code of the program, for RouteEnds. No condition. -/
import Derived.Test.YtaeppjlndecijabGreatDoorQ3
import Derived.Test.YtaeppjlndecijabGreatDoorC3
set_option linter.unusedVariables false
set_option linter.unusedSimpArgs false
set_option linter.unusedSectionVars false
set_option linter.defProp false
namespace Go.Proofs.YtaeppjlndecijabGreatDoor
open Go Go.AM
open Tryz
def Cc(P:Program)(fn:Func)(q:AFun):Bool:=!(fn.name=="runtime.NumGoroutine")&&match fn.body with|some c=>QZ P fn.ntmps false c q.body&&YJ P fn.results.toList q.res|none=>false
def Z0(P:Program)(f:Nat)(q:AFun):Prop:=∃(fn:Func)(c:Code),P.funcs[f]?=some fn/\(fn.name=="runtime.NumGoroutine")=false/\fn.body=some c/\QZ P fn.ntmps false c q.body=true/\YJ P fn.results.toList q.res=true
def Z1{P:Program}{f:Nat}{fn:Func}(q:AFun)(hf:P.funcs[f]?=some fn)(h:Cc P fn q=true):Z0 P f q:=by
 unfold Cc at h;rw[Bool.and_eq_true]at h;obtain⟨h1,h2⟩:=h;cases hb:fn.body with
 |none=>rw[hb]at h2;cases h2
 |some c=>
  rw[hb]at h2;simp only[Bool.and_eq_true]at h2;exact⟨fn,c,hf,by simpa using h1,hb,h2.1,h2.2⟩
def OkL(P:Program):List (Nat×AFun)->Prop
 |[]=>True
 |p::r=>Z0 P p.1 p.2/\OkL P r
def ZCh(P:Program):List (Nat×AFun)->Bool
 |[]=>true
 |p::r=>(match P.funcs[p.1]? with|some fn=>Cc P fn p.2|none=>false)&&ZCh P r
def ZCg{P:Program}:∀(l:List<|Nat×AFun),ZCh P l=true->OkL P l
 |[],_=>trivial
 |p::r,h=>by
  unfold ZCh at h;rw[Bool.and_eq_true]at h;cases e:P.funcs[p.1]? with
  |none=>rw[e]at h;cases h.1
  |some fn=>rw[e]at h;exact⟨Z1 p.2 e h.1,ZCg r h.2⟩
def ZmS:OkL Tryz.prog FN0:=ZCg _<|by kernel_rfl
def ZmT:OkL Tryz.prog FN1:=ZCg _<|by kernel_rfl
def ZmU:OkL Tryz.prog FN2:=ZCg _<|by kernel_rfl
def ZmV:OkL Tryz.prog FN3:=ZCg _<|by kernel_rfl
def ZmW:OkL Tryz.prog FN4:=ZCg _<|by kernel_rfl
def ZmX:OkL Tryz.prog FN5:=ZCg _<|by kernel_rfl
def ZmY:OkL Tryz.prog FN6:=ZCg _<|by kernel_rfl
def ZmZ:OkL Tryz.prog FN7:=ZCg _<|by kernel_rfl
def Zn0:OkL Tryz.prog FN8:=ZCg _<|by kernel_rfl
def Zn1:OkL Tryz.prog FN9:=ZCg _<|by kernel_rfl
def Zn2:OkL Tryz.prog ZjY:=ZCg _<|by kernel_rfl
def Zn3:OkL Tryz.prog ZjZ:=ZCg _<|by kernel_rfl
def Zn4:OkL Tryz.prog Zk0:=ZCg _<|by kernel_rfl
def ZsO:OkL Tryz.prog Zsg:=ZCg _<|by kernel_rfl
def ZsP:OkL Tryz.prog Zsh:=ZCg _<|by kernel_rfl
def ZDa:OkL Tryz.prog ZCZ:=ZCg _<|by kernel_rfl
def ZWQ:OkL Tryz.prog ZTu:=ZCg _<|by kernel_rfl
def ZWR:OkL Tryz.prog ZTv:=ZCg _<|by kernel_rfl
def ZWS:OkL Tryz.prog ZTw:=ZCg _<|by kernel_rfl
def brF{b:Bool}{x y:Option AFun}{q:AFun}{G:Prop}(h1:x=some q->G)(h2:y=some q->G)(h:(bif b then x else y)=some q):G:=by
 cases b with
 |true=>exact h1 h
 |false=>exact h2 h
def ZjX{P:Program}{f:Nat}{q:AFun}:∀{l:List (Nat×AFun)},OkL P l->ZjW f l=some q->Z0 P f q
 |[],_,h=>by cases h
 |p::r,hl,h=>by
  unfold ZjW at h;rw[List.foldr_cons]at h;cases hb:Nat.beq f p.1 with
  |true=>
   rw[hb]at h;obtain rfl:=Option.some.inj h;rw[Nat.eq_of_beq_eq_true hb];exact hl.1
  |false=>
   rw[hb]at h;exact ZjX hl.2 h
def Z98(f:Nat)(q:AFun)(h:N0 f=some q):Z0 Tryz.prog f q:=
 brF (ZjX ZmS) (brF (ZjX ZmT)<|brF (ZjX ZmU)<|brF (ZjX ZmV)<|brF (ZjX ZmW)<|brF (ZjX ZmX)<|brF (ZjX ZmY)<|brF (ZjX ZmZ)<|brF (ZjX Zn0)<|brF (ZjX Zn1)<|brF (ZjX Zn2)<|brF (ZjX Zn3)<|brF (ZjX Zn4)<|brF (ZjX ZsO)<|brF (ZjX ZsP)<|brF (ZjX ZDa)<|brF (ZjX ZWQ)<|brF (ZjX ZWR)<|ZjX ZWS) h
end Go.Proofs.YtaeppjlndecijabGreatDoor
