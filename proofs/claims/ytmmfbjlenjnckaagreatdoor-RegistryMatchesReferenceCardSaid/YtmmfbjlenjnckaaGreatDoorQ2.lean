/- The abstract machine and its soundness, part 2: what it computes, the program computes. No condition. -/
import Derived.Test.YtmmfbjlenjnckaaGreatDoorQ1
import Derived.LoopNIn
import Derived.RangeFuncRecord
set_option linter.unusedVariables false
set_option linter.defProp false
set_option linter.unusedSimpArgs false
set_option linter.unusedSectionVars false
namespace Go.AM
open Go
variable [Dr]
variable {P:Program} {E:Env} {T:Ty} {X:Xt} {w:World} {h:Hp} {fr:Fr} {a:Act}
def MC{kt:TypeId}{kk:List Nat}{k:AV}{rk:Value}{b:Bool}(hk:tk P 20 kt=some kk)(he:Zz (ZF P kt) kk k k=some b)(hr:R T X w k rk)(em:Bool)(w':World):(Instr.checkKey em 10000 kt rk).run P w'=.ok () w':=by
 cases ha:ZF P kt with
 |true=>
  rw[ha]at he;cases k<;>simp[Zz]at he
  obtain⟨vs,rfl,hr⟩:=hr;have hl:=Qr hr;have hl2:=(X5 he).1;have:=MB (P:=P) 20 10000 kt kk (by decide) hk em vs.toList (by omega) w'
  simpa[mkV,ha]using this
 |false=>
  rw[ha]at he;simp only[Zz]at he;have hl2:=(X5 he).1;have:=MB (P:=P) 20 10000 kt kk (by decide) hk em [rk] (by simpa using hl2) w'
  simpa[mkV,ha]using this
def MD{kt:TypeId}{kk:List Nat}{k:AV}{rk:Value}{ks:List AV}{es:Array MapEntry}{l:List MapEntry}{r:Option Nat}(hk:tk P 20 kt=some kk)(hf:ZW (ZF P kt) kk k ks 0=some r)(hr:R T X w k rk)
 (hnd:ks.Nodup) (hp:List.Perm l es.toList) (hks:Rs T X w ks (l.map (·.key))):
 match r with
 |none=>(Instr.findKey kt rk es.toList).run P w=.ok none w/\k ∉ ks\/(Instr.findKey kt rk es.toList).run P w=.ok none w/\∀b,Zz (ZF P kt) kk k k≠some b
 |some i=>∃(j:Nat)(e:MapEntry),(Instr.findKey kt rk es.toList).run P w=.ok (some (j,e.val)) w/\es[j]?=some e/\l[i]?=some e/\ks[i]?=some k:=by
 obtain⟨d,hu⟩:=VG hk;have hall:=Mu hf;have test:∀e∈es.toList,∃(j:Nat)(x:AV)(b:Bool),l[j]?=some e/\ks[j]?=some x/\Zz (ZF P kt) kk k x=some b/\(Op.equal kt rk e.key).run P w=.ok b w:=by
  intro e he;have hel:=hp.mem_iff.2 he;obtain⟨j,hj⟩:=ZYs.1 hel;have hlen:=Qr hks;have hjl:j<ks.length:=by rw[hlen];simpa using(ZXg.1 hj).1
  obtain⟨v,hv,hR⟩:=Wp j hks<|ZX5 hjl;rw[ZXJ,hj]at hv;simp at hv;obtain⟨b,hb⟩:=hall _<|ZYt hjl;exact⟨j,ks[j],b,hj,ZX5 hjl,hb,HV hk hb hr<|by rw[hv];exact hR⟩
 obtain⟨p,hpp⟩:∃p:MapEntry->Bool,∀e,p e=(match(Op.equal kt rk e.key).run P w with| .ok b _=>b|_=>false):=⟨_,λ_=>rfl⟩
 have hpe:∀e∈es.toList,(Op.equal kt rk e.key).run P w=.ok (p e) w:=by
  intro e he;obtain⟨j,x,b,_,_,_,h4⟩:=test e he;rw[hpp,h4]
 have hrun:=run_findKey (P:=P) hu hpe;cases r with
 |none=>
  have hno:=Mw hf;have hfm:fm p es.toList 0=none:=by
   cases hfm:fm p es.toList 0 with
   |none=>rfl
   |some q=>
    obtain⟨_,e,h1,h2,h3⟩:=Rb hfm;have he:e∈es.toList:=ZXk h1;obtain⟨j,x,b,q1,q2,q3,q4⟩:=test e he;rw[hpp,q4]at h2;have:=hno x<|ZXk q2;rw[q3]at this;simp at this h2;rw[this]at h2;cases h2
  rw[hfm]at hrun;by_cases hd:∃b,Zz (ZF P kt) kk k k=some b
  .left;refine⟨hrun,λhmem=>?_⟩
   have:=hno k hmem;have h2:=B3 this;cases h2
  .right;exact⟨hrun,λb hb=>hd ⟨b,hb⟩⟩
 |some i=>
  obtain⟨_,x,h1,h2⟩:=Mx hf;have hxk:=Mt h2;subst hxk;rw[Nat.sub_zero]at h1;have hlen:=Qr hks;have hil:i<l.length:=by
   have:=(ZXg.1 h1).1;rw[hlen]at this;simpa using this
  have hei:l[i]?=some l[i]:=ZX5 hil;have hmem:l[i]∈es.toList:=hp.mem_iff.1<|ZYt hil;have hti:p l[i]=true:=by
   obtain⟨v,hv,hR⟩:=Wp i hks h1;rw[ZXJ,hei]at hv;simp at hv;rw[hpp,HV hk h2 hr<|by rw[hv];exact hR]
  cases hfm:fm p es.toList 0 with
  |none=>have:=My hfm _ hmem;rw[hti]at this;cases this
  |some q=>
   rw[hfm]at hrun;obtain⟨_,e,q1,q2,q3⟩:=Rb hfm;rw[Nat.sub_zero]at q1;have he:e∈es.toList:=ZXk q1;obtain⟨j,y,b,r1,r2,r3,r4⟩:=test e he;rw[hpp,r4]at q2;simp only at q2;subst q2;have hyk:=Mt r3;subst hyk;have hij:i=j:=by
    exact(List.getElem?_inj (ZXg.1 h1).1 hnd).1 (h1.trans r2.symm)
   subst hij;refine⟨q.1,e,?_,by rw[<-ZY2];exact q1,r1,h1⟩
   rw[hrun,q3]
def Rd{kt vt:TypeId}{kk:List Nat}{k z:AV}{rk zv:Value}{ks vs:List AV}{es:Array MapEntry}{l:List MapEntry}{ok:Bool}{rs:List Nat}{res:Zt}(hk:tk P 20 kt=some kk)(hz:YH P vt=some zv)(hzc:Q3 zv z=true)
 (he:QW (ZF P kt) kk ok z rs ks vs k=some res) (hr:R T X w k rk) (hnd:ks.Nodup) (hp:List.Perm l es.toList) (hks:Rs T X w ks (l.map (·.key))) (hvs:Rs T X w vs (l.map (·.val))) (em:Bool):
 ∃rv v,res=(v,rs,none)/\R T X w v rv/\(Instr.checkKey em 10000 kt rk).run P w=.ok () w/\
  (((Instr.findKey kt rk es.toList).run P w=.ok none w/\rv=if ok=true then Value.tuple #[zv,.bool false]else zv)\/
   (∃j u,(Instr.findKey kt rk es.toList).run P w=.ok (some (j,u)) w/\rv=if ok=true then Value.tuple #[u,.bool true]else u)):=by
 unfold QW at he;cases hd:Zz (ZF P kt) kk k k with
 |none=>rw[hd]at he;simp at he
 |some b=>
  cases hf:ZW (ZF P kt) kk k ks 0 with
  |none=>rw[hd,hf]at he;simp at he
  |some r=>
   rw[hd,hf]at he;have hkf:=MD (P:=P) hk hf hr hnd hp hks;have hck:=MC (P:=P) hk hd hr em w;have hzr:R T X w z zv:=Ws _ _ hzc;cases r with
   |none=>
    simp only[Option.some.injEq]at he;have hrun:(Instr.findKey kt rk es.toList).run P w=.ok none w:=by
     rcases hkf with h1|h1<;>exact h1.1
    subst he;cases ok with
    |true=>
     refine⟨_,_,rfl,⟨#[zv,.bool false],rfl,⟨zv,[.bool false],rfl,hzr,⟨_,[],rfl,rfl,rfl⟩⟩⟩,hck,.inl ⟨hrun,rfl⟩⟩
    |false=>
     exact⟨_,_,rfl,hzr,hck,.inl ⟨hrun,rfl⟩⟩
   |some i=>
    simp only[ZXi]at he;obtain⟨v,hv,rfl⟩:=he;obtain⟨j,e,hrun,_,hle,_⟩:=hkf;obtain⟨u,hu,hR⟩:=Wp i hvs hv;rw[ZXJ,hle]at hu;simp at hu;subst hu;cases ok with
    |true=>
     refine⟨_,_,rfl,⟨#[e.val,.bool true],rfl,⟨e.val,[.bool true],rfl,hR,⟨_,[],rfl,rfl,rfl⟩⟩⟩,hck,.inr ⟨_,_,hrun,rfl⟩⟩
    |false=>
     exact⟨_,_,rfl,hR,hck,.inr ⟨_,_,hrun,rfl⟩⟩
def B5{s:Sem Next}{mt kt vt:TypeId}{kk:List Nat}{x k z:AV}{v rk zv:Value}{ok:Bool}{res:Zt}(m:M T X h w)(ht:P.underlying mt=some (.map kt vt))(hk:tk P 20 kt=some kk)(hz:YH P vt=some zv)(hzc:Q3 zv z=true)
 (hx:R T X w x v) (hr:R T X w k rk) (hs:∀rv,(Instr.lookup mt v rk ok).run P w=.ok rv w->s.run P w=.ok (.value rv) w)
 (he:(match(generalizing:=false) x with
 | .nilmap=>QW (ZF P kt) kk ok z [] [] [] k
 | .imap _ ks vs=>QW (ZF P kt) kk ok z [] ks vs k
 | .mp b=>
  match h[b]? with
  |some (.map ks vs)=>QW (ZF P kt) kk ok z [b] ks vs k
  |_=>none
 |_=>none)=some res):Sim P T X h w s res:=by
 cases x<;>(first|(simp only[reduceCtorEq]at he;done)|dsimp only at he|skip)
 case nilmap=>
  have hv:v=.map none:=hx;subst hv;obtain⟨rv,u,rfl,hR,hck,hrun⟩:=Rd (P:=P) (es:=#[]) (l:=[]) hk hz hzc he hr ZYT .nil rfl rfl true;refine Sim.pure m (hs rv ?_) hR;rcases hrun with⟨h1,rfl⟩|⟨j,u,h1,rfl⟩
  .simp only[Instr.lookup,Sem.run_bind,run_underlying ht,Result.andThen_ok,Sem.run_pure,Array.isEmpty_empty,hck,h1,Xu w hz]
  .simp only[Instr.lookup,Sem.run_bind,run_underlying ht,Result.andThen_ok,Sem.run_pure,Array.isEmpty_empty,hck,h1]
 case imap bw ks vs=>
  obtain⟨r,es,clock,l,rfl,h1,h2,h3,h4,hnd,h5,h6,h7⟩:=hx;obtain⟨rv,u,rfl,hR,hck,hrun⟩:=Rd (P:=P) hk hz hzc he hr hnd h5 h6 h7 es.isEmpty;refine Sim.pure m (hs rv ?_) hR;rcases hrun with⟨q1,rfl⟩|⟨j,u,q1,rfl⟩
  .simp only[Instr.lookup,Sem.run_bind,run_underlying ht,Result.andThen_ok,Sem.run_pure,getObj,Sem.run,h4.1,hck,q1,Xu w hz]
  .simp only[Instr.lookup,Sem.run_bind,run_underlying ht,Result.andThen_ok,Sem.run_pure,getObj,Sem.run,h4.1,hck,q1]
 case mp b=>
  cases hb:h[b]? with
  |none=>rw[hb]at he;cases he
  |some o=>
   rw[hb]at he;cases o<;>(first|(simp only[reduceCtorEq]at he;done)|dsimp only at he|skip)
   case map ks vs=>
    obtain⟨r,es,clock,l,hT,h4,hnd,h5,h6,h7⟩:=JS m hb;obtain⟨r2,hT2,rfl⟩:=hx;rw[hT]at hT2;cases hT2;obtain⟨rv,u,rfl,hR,hck,hrun⟩:=Rd (P:=P) hk hz hzc he hr hnd h5 h6 h7 es.isEmpty;refine Sim.pure m (hs rv ?_) hR;rcases hrun with⟨q1,rfl⟩|⟨j,u,q1,rfl⟩
    .simp only[Instr.lookup,Sem.run_bind,run_underlying ht,Result.andThen_ok,Sem.run_pure,getObj,Sem.run,h4.1,hck,q1,Xu w hz]
    .simp only[Instr.lookup,Sem.run_bind,run_underlying ht,Result.andThen_ok,Sem.run_pure,getObj,Sem.run,h4.1,hck,q1]
def B6{k:Nat}{x:AV}{b:Bool}{v u:Value}(he:eq1 k x x=some b)(hv:R T X w x v)(hu:R T X w x u):v=u/\∀n,Instr.sameBits n v v=true:=by
 rcases k with _|_|_|k
 .cases x<;>simp[eq1]at he
  rw[Wu hv,Wu hu];exact⟨rfl,λn=>by cases n<;>simp[Instr.sameBits]⟩
 .cases x<;>simp[eq1]at he
  rw[QS hv,QS hu];exact⟨rfl,λn=>by cases n<;>simp[Instr.sameBits]⟩
 .cases x<;>simp[eq1]at he
  rw[Yj hv,Yj hu];refine⟨rfl,λn=>?_⟩
  have:∀s:ByteArray,(s==s)=true:=λs=>by rw[beq_toListBytes];simp
  cases n<;>simp[Instr.sameBits,this]
 .simp[eq1]at he
def Rf:∀{ks:List Nat}{cx:List AV}{b:Bool}{vs us:List Value},ZE ks cx cx=some b->Rs T X w cx vs->Rs T X w cx us->vs=us/\∀n,((vs.zip vs).all λ(x,y)=>Instr.sameBits n x y)=true
 |[],[],_,vs,us,_,hv,hu=>by rw[show vs=[]from hv,show us=[]from hu];simp
 |[],_::_,_,_,_,h,_,_=>by simp[ZE]at h
 |_::_,[],_,_,_,h,_,_=>by simp[ZE]at h
 |k::ks,x::cx,b,vs,us,h,hv,hu=>by
  simp only[ZE]at h;cases h1:eq1 k x x with
  |none=>rw[h1]at h;cases h
  |some b0=>
   cases h2:ZE ks cx cx with
   |none=>simp[h1,h2]at h
   |some b1=>
    obtain⟨v,vr,rfl,q1,q2⟩:=hv;obtain⟨u,ur,rfl,q3,q4⟩:=hu;obtain⟨e1,e2⟩:=B6 h1 q1 q3;obtain⟨e3,e4⟩:=Rf h2 q2 q4;subst e1 e3;exact⟨rfl,λn=>by simp only[List.zip_cons_cons,ZXz,e2 n,e4 n,ZX8]⟩
def B7{ag:Bool}{kk:List Nat}{k:AV}{b:Bool}{v u:Value}(he:Zz ag kk k k=some b)(hv:R T X w k v)(hu:R T X w k u)(w':World):(Instr.keyThatStays v u).run P w'=.ok u w'/\v=u:=by
 have key:v=u/\Instr.sameBits 10000 u u=true:=by
  cases ag with
  |true=>
   cases k<;>simp[Zz]at he
   obtain⟨vs,rfl,h1⟩:=hv;obtain⟨us,rfl,h2⟩:=hu;obtain⟨e1,e2⟩:=Rf he h1 h2;have:vs=us:=by apply ZXV;exact e1
   subst this;refine⟨rfl,?_⟩;have:=e2 9999;show Instr.sameBits (9999+1) (.agg vs) (.agg vs)=true
   simp only[Instr.sameBits,beq_self_eq_true,ZWR];exact this
  |false=>
   simp only[Zz]at he;obtain⟨e1,e2⟩:=Rf (vs:=[v]) (us:=[u]) he ⟨v,[],rfl,hv,rfl⟩ ⟨u,[],rfl,hu,rfl⟩;simp at e1;subst e1;refine⟨rfl,?_⟩;have:=e2 10000;simpa using this
 obtain⟨rfl,h2⟩:=key;refine⟨?_,rfl⟩;simp only[Instr.keyThatStays,h2,if_true,Sem.run_pure]
def B8{l:List MapEntry}{es:Array MapEntry}{i j:Nat}{e:MapEntry}{f:MapEntry->MapEntry}(hp:List.Perm l es.toList)(hj:es[j]?=some e)(hi:l[i]?=some e):List.Perm (l.set i<|f e) (es.modify j f).toList:=by
 have hjl:j<es.toList.length:=by
  have:=(ZXN.1 hj).1;simpa using this
 have hil:i<l.length:=(ZXg.1 hi).1;have hl:l=l.take i++e::l.drop (i+1):=by
  have he:l[i]=e:=(ZXg.1 hi).2;rw[<-he,ZZ7,ZXW]
 have hj':es.toList[j]?=some e:=by rw[ZY2];exact hj
 have hes:es.toList=es.toList.take j++e::es.toList.drop (j+1):=by
  have he:es.toList[j]=e:=(ZXg.1 hj').2;rw[<-he,ZZ7,ZXW]
 have hmod:(es.modify j f).toList=es.toList.take j++f e::es.toList.drop (j+1):=by
  rw[Array.toList_modify];rw[List.modify_eq_take_cons_drop hjl];congr 3;exact(ZXg.1 hj').2
 have hset:l.set i (f e)=l.take i++f e::l.drop (i+1):=by
  rw[ZZm,if_pos hil]
 rw[hmod,hset];have h1:List.Perm (e::(l.take i++l.drop (i+1))) (e::(es.toList.take j++es.toList.drop (j+1))):=by
  refine(ZYU.symm).trans ?_;rw[<-hl];refine hp.trans ?_
  conv=>lhs;rw[hes]
  exact ZYU
 have h2:=h1.cons_inv;exact ZYU.trans<|(List.Perm.cons _ h2).trans ZYU.symm
def G8(w:World)(r:Nat)(o:Obj)(hr:r<w.heap.size)(x:Nat):({w with heap:=w.heap.setIfInBounds r o}:World).heap[x]?=if x=r then some o else w.heap[x]?:=by
 show(w.heap.setIfInBounds r o)[x]?=_
 rw[Array.getElem?_setIfInBounds];by_cases hx:r=x
 .subst hx;simp[hr]
 .have hx':¬x=r:=λe=>hx e.symm
  rw[if_neg hx,if_neg hx']
def ME{s:Sem Next}{mt kt vt:TypeId}{kk:List Nat}{x k y:AV}{v rk ry:Value}{res:Zt}(m:M T X h w)(ht:P.underlying mt=some (.map kt vt))(hk:tk P 20 kt=some kk)
 (hx:R T X w x v) (hr:R T X w k rk) (hy:R T X w y ry) (hs:∀w',(Instr.mapUpdate mt v rk ry).run P w=.ok () w'->s.run P w=.ok .skip w')
 (he:(match(generalizing:=false) x with
 | .mp b=>
  match h[b]? with
  |some (.map ks vs)=>Yo (ZF P kt) kk b ks vs k y
  |_=>none
 |_=>none)=some res):Sim P T X h w s res:=by
 cases x<;>(first|(simp only[reduceCtorEq]at he;done)|dsimp only at he|skip)
 case mp b=>
  cases hb:h[b]? with
  |none=>rw[hb]at he;cases he
  |some o=>
   rw[hb]at he;cases o<;>(first|(simp only[reduceCtorEq]at he;done)|dsimp only at he|skip)
   case map ks vs=>
    obtain⟨r,es,clock,l,hT,h4,hnd,h5,h6,h7⟩:=JS m hb;obtain⟨r2,hT2,rfl⟩:=hx;rw[hT]at hT2;cases hT2;have hrl:r<w.heap.size:=m.lt r ⟨b,_,hT,rfl⟩;unfold Yo at he;cases hd:Zz (ZF P kt) kk k k with
    |none=>rw[hd]at he;simp at he
    |some bb=>
     cases hf:ZW (ZF P kt) kk k ks 0 with
     |none=>rw[hd,hf]at he;simp at he
     |some q=>
      rw[hd,hf]at he;have hkf:=MD (P:=P) hk hf hr hnd h5 h6;have hck:=MC (P:=P) hk hd hr false w;have fin:∀(o':Obj)(ks' vs':List AV)(es':Array MapEntry)(clock':Nat)(l':List MapEntry),o'=.map es' clock'->ZoV es' clock'->ks'.Nodup->List.Perm l' es'.toList->Rs T X w ks' (l'.map (·.key))->Rs T X w vs' (l'.map (·.val))->
       (Instr.mapUpdate mt (.map<|some r) rk ry).run P w=.ok () {w with heap:=w.heap.setIfInBounds r o'}->res=(.bot,[b],some (b,.map ks' vs'))->Sim P T X h w s res:=by
       intro o' ks' vs' es' clock' l' ho' hbo' hnd' hp' hks' hvs' hrun hres;subst hres;obtain⟨st,hm⟩:=JV (w':={w with heap:=w.heap.setIfInBounds r o'}) (o:=.map ks' vs') (c':=.map r) m hT rfl rfl (.refl _) (KD hb) rfl rfl rfl (by simp)
        (λx hx=>by rw[G8 w r o' hrl,if_neg hx])
        (λst=>by
         rw[KC hT]at st⊢;exact⟨es',clock',l',⟨by rw[G8 w r o' hrl,if_pos rfl,ho'],hbo'⟩,hnd',hp',Yb st _ _ hks',Yb st _ _ hvs'⟩)
       rw[KC hT]at st hm;exact⟨T,_,undef,.inr ⟨hs _ hrun,rfl⟩,st,hm,trivial⟩
      cases q with
      |none=>
       simp only[Option.some.injEq]at he;have hrun:(Instr.findKey kt rk es.toList).run P w=.ok none w/\k ∉ ks:=by
        rcases hkf with h1|h1
        .exact h1
        .exact(h1.2 _ hd).elim
       refine fin (.map (es.push {key:=rk,val:=ry,born:=clock})<|clock+1) (ks++[k]) (vs++[y]) _ _ (l++[{key:=rk,val:=ry,born:=clock}]) rfl (Zq3 h4.2 _ _) ?_ ?_ ?_ ?_ ?_ he.symm
       .rw[ZZ5];exact⟨hnd,by simp,by intro a ha c hc;simp at hc;subst hc;exact λe=>hrun.2<|e▸ha⟩
       .simpa using h5.append_right _
       .simpa using QR h6 (show Rs T X w [k] [rk]from⟨rk,[],rfl,hr,rfl⟩)
       .simpa using QR h7 (show Rs T X w [y] [ry]from⟨ry,[],rfl,hy,rfl⟩)
       .simp only[Instr.mapUpdate,Sem.run_bind,run_underlying ht,Result.andThen_ok,getObj,Sem.run,h4.1,hck,hrun.1,setObj]
      |some i=>
       simp only[Option.some.injEq]at he;obtain⟨j,e,hrun,hej,hli,hki⟩:=hkf;obtain⟨u,hu,hR⟩:=Wp i h6 hki;rw[ZXJ,hli]at hu;simp at hu;subst hu;obtain⟨hst,hkey⟩:=B7 (P:=P) hd hR hr w;refine fin (.map (es.modify j λe=>{e with key:=rk,val:=ry}) clock) ks (vs.set i y) _ _ (l.set i {e with key:=rk,val:=ry}) rfl (Zq4 h4.2 _ _<|λ_=>rfl) hnd ?_ ?_ ?_ ?_ he.symm
       .exact B8 (f:=λe=>{e with key:=rk,val:=ry}) h5 hej hli
       .rw[ZX6];have:(l.map (·.key)).set i rk=l.map (·.key):=by
         have hg:(l.map (·.key))[i]?=some rk:=by rw[ZXJ,hli];simp[hkey]
         apply ZYp;intro x;rw[List.getElem?_set];split
         .next hx=>
          subst hx;split
          .exact hg.symm
          .next hx=>rw[ZXQ<|by omega]
         .rfl
        simp only[this];exact h6
       .rw[ZX6];exact Cg i h7 hy
       .simp only[Instr.mapUpdate,Sem.run_bind,run_underlying ht,Result.andThen_ok,getObj,Sem.run,h4.1,hck,hrun,hej,ZXo,ZYK,hst,setObj]
def B9{s:Sem Next}{t:TypeId}{aid:Nat}{rs:List Nat}(m:M T X h w)(hX:∀r,X r->r<w.heap.size)(hid:aid<=h.length)(hT:T aid=none)
 (hs:∀rv w',(Instr.makeMap t none).run P w=.ok rv w'->s.run P w=.ok (.value rv) w'):Sim P T X h w s (.mp aid,rs,some (aid,.map [] [])):=by
 refine⟨upd T aid<|.map w.heap.size,_,_,.inl<|hs (.map<|some w.heap.size) (w.alloc<|.map #[] 0)<|by simp[Instr.makeMap],VD T w _ aid _ hT (by simp[TC.real]),?_,⟨_,upd_same _ _ _,rfl⟩⟩
 exact JQ m hX aid _ _ _ hid hT (by simp[TC.real]) ⟨#[],0,[],⟨Wo w _,Zq2 0⟩,ZYT,.nil,rfl,rfl⟩
def Ba{s:Sem Next}{t:TypeId}{x:AV}{v:Value}{aid:Nat}{res:Zt}(m:M T X h w)(hX:∀r,X r->r<w.heap.size)(hid:aid<=h.length)(hT:T aid=none)(ht:P.underlying t=some .string)(hx:R T X w x v)
 (hs:∀rv w',(Instr.range t v).run P w=.ok rv w'->s.run P w=.ok (.value rv) w')
 (he:(match(generalizing:=false) x with
 | .str s=>some (AV.it aid,[],some (aid,AObj.iter s 0))
 |_=>none)=some res):Sim P T X h w s res:=by
 cases x<;>(first|(simp only[reduceCtorEq]at he;done)|dsimp only at he|skip)
 case str st=>
  simp only[Option.some.injEq]at he;subst he;cases Yj hx;refine⟨upd T aid<|.iter w.heap.size,_,_,.inl<|hs (.pointer<|some ⟨w.heap.size,0,none⟩) (w.alloc<|.stringIter st 0)<|by simp[Instr.range,run_underlying ht],VD T w _ aid _ hT (by simp[TC.real]),?_,⟨_,upd_same _ _ _,rfl⟩⟩
  exact JQ m hX aid _ _ _ hid hT (by simp[TC.real])<|Wo w _
def Bb{s:Sem Next}{t:TypeId}{x:AV}{v:Value}{res:Zt}(m:M T X h w)(hx:R T X w x v)
 (hs:∀rv w',(Instr.next v true t).run P w=.ok rv w'->s.run P w=.ok (.value rv) w')
 (he:(match(generalizing:=false) x with
 | .it b=>
  match h[b]? with
  |some (.iter s pos)=>
   bif Nat.blt pos s.size then
    some (AV.tup [.bool true,.int .i64 pos,.int .i32 (Utf8.decode s pos).1],[b],some (b,AObj.iter s<|pos+(Utf8.decode s pos).2))
   else some (AV.tup [.bool false],[b],none)
  |_=>none
 |_=>none)=some res):Sim P T X h w s res:=by
 cases x<;>(first|(simp only[reduceCtorEq]at he;done)|dsimp only at he|skip)
 case it b=>
  cases hb:h[b]? with
  |none=>rw[hb]at he;cases he
  |some o=>
   rw[hb]at he;cases o<;>(first|(simp only[reduceCtorEq]at he;done)|dsimp only at he|skip)
   case iter st pos=>
    obtain⟨r,hT,h4⟩:=Ce m hb;obtain⟨r2,hT2,rfl⟩:=hx;rw[hT]at hT2;cases hT2;have hrl:r<w.heap.size:=m.lt r ⟨b,_,hT,rfl⟩;cases hlt:Nat.blt pos st.size with
    |false=>
     rw[hlt]at he;simp only[cond_false,Option.some.injEq]at he;subst he;have hn:¬pos<st.size:=by
      intro hh;rw[show Nat.blt pos st.size=true from by simpa using hh]at hlt
      cases hlt
     refine Sim.pure m (hs (.tuple #[.bool false]) w ?_) ⟨_,rfl,⟨_,[],rfl,rfl,rfl⟩⟩;simp only[Instr.next,Sem.run_bind,getObj,Sem.run,h4,Result.andThen_ok]
     rw[if_neg hn];rfl
    |true=>
     rw[hlt]at he;simp only[cond_true,Option.some.injEq]at he;subst he;have hn:pos<st.size:=by simpa using hlt
     obtain⟨w',hw'⟩:∃w':World,w'={w with heap:=w.heap.setIfInBounds r (.stringIter st<|pos+(Utf8.decode st pos).2)}:=⟨_,rfl⟩
     obtain⟨stp,hm⟩:=JV (w':=w') (o:=.iter st<|pos+(Utf8.decode st pos).2) (c':=.iter r) m hT rfl rfl (.refl _) (KD hb) (by rw[hw']) (by rw[hw']) (by rw[hw']) (by rw[hw'];simp)
      (λx hx=>by rw[hw',G8 w r _ hrl,if_neg hx])
      (λ_=>by
       show w'.heap[r]?=_
       rw[hw',G8 w r _ hrl,if_pos rfl]) (hdr:=λ_=>by rw[hw'];exact ZX0 _)
     rw[KC hT]at stp hm;refine⟨T,w',_,.inl<|hs (.tuple #[.bool true,.int .i64 pos,.int .i32 (Utf8.decode st pos).1]) w' ?_,stp,hm,⟨_,rfl,⟨_,_,rfl,rfl,⟨_,_,rfl,rfl,⟨_,_,rfl,rfl,rfl⟩⟩⟩⟩⟩;simp only[Instr.next,Sem.run_bind,getObj,Sem.run,h4,Result.andThen_ok]
     rw[if_pos hn];simp only[Sem.run_bind,setObj,Sem.run,h4,Result.andThen_ok];rw[hw'];rfl
end Go.AM
namespace Go.AM
open Go
variable [Dr]
variable {P:Program} {E:Env} {T:Ty} {X:Xt} {w:World} {h:Hp} {fr:Fr} {a:Act}
def G9:Operand->Bool
 | .const (.slice none 0 0)=>true
 |_=>false
def isSlice(P:Program)(t:TypeId):Option TypeId:=
 match P.underlying t with
 |some (.slice e)=>some e
 |_=>none
def ZFF(P:Program)(t:TypeId):Bool:=
 match P.underlying t with
 |some (.pointer _)=>true
 |_=>false
def V3(P:Program)(t:TypeId):Bool:=
 match P.underlying t with
 |some .string=>true
 |_=>false
def isMap(P:Program)(t:TypeId):Option (TypeId×TypeId):=
 match P.underlying t with
 |some (.map k e)=>some (k,e)
 |_=>none
def V4(P:Program)(t:TypeId):Option (Nat×TypeId):=
 match P.underlying t with
 |some (.array n e)=>some (n,e)
 |_=>none
def V5(P:Program)(t:TypeId):Option (Array Field):=
 match P.underlying t with
 |some (.struct fs)=>some fs
 |_=>none
def MF(P:Program)(t:TypeId):Bool:=
 match P.underlying t with
 |some (.int _)=>true
 |_=>false
def KI(P:Program)(t:TypeId)(z:AV):Bool:=
 match YH P t with
 |some v=>Q3 v z
 |none=>false
def VI:Option Operand->Option Arg->Bool
 |none,none=>true
 |some x,some y=>Zr x y
 |_,_=>false
def Gb(P:Program):Op->AOp->Bool
 | .move x,.rel y=>Zr x y
 | .assign x,.rel y=>Zr x y
 | .move x,.mv y=>Zr x y
 | .assign x,.mv y=>Zr x y
 | .move x,.own sz=>G9 x&&decide (0<sz)
 | .assign x,.own sz=>G9 x&&decide (0<sz)
 | .pick c x y,.pick c' x' y'=>Zr c c'&&Zr x x'&&Zr y y'
 | .alloc t,.box sz (.c z)=>KI P t z&&decide (0<sz)
 | .box _ x,.box sz y=>Zr x y&&decide (0<sz)
 | .alloc t,.ibox sz (.c z)=>KI P t z&&decide (0<sz)
 | .box _ x,.ibox sz y=>Zr x y&&decide (0<sz)
 | .build t ps,.build z qs=>
  (match YH P t with|some v=>Wr v.cells.toList z|none=>false)&&
  (match V5 P t with
   |some fs=>(KH P fs.toList).isSome&&Xx (KG P fs) ps.toList qs
   |none=>
    match V4 P t with
    |some (_,e)=>(match ZR P e with|some sz=>Xx (λi=>some (i*sz,sz)) ps.toList qs|none=>false)
    |none=>false)
 | .buildSlice t len ps,.bsl _ _ sz z len' qs=>
  match isSlice P t with
  |some e=>decide (len=len')&&decide (0<sz)&&decide (len*sz<=16777216)&&decide (ZR P e=some sz)&&KI P e z&&Xx (λi=>some (i*sz,sz)) ps.toList (qs.map λq=>(q.1*sz,sz,q.2))
  |none=>false
 | .load t x,.load n y=>Xv P t n&&Zr x y
 | .load t x,.ldr n _ y=>Xv P t (some n)&&Zr x y
 | .store t x y,.store n x' y'=>decide (ZR P t=some n)&&Zr x x'&&Zr y y'
 | .nilCheck x,.nilck y=>Zr x y
 | .binOp op t x (.const<|.pointer none) _,.isn neg y=>decide (op=if neg then .neq else .eql)&&ZFF P t&&Zr x y
 | .binOp op _ x y _,.bin op' x' y'=>decide (op=op')&&Zr x x'&&Zr y y'
 | .binOp op t x y _,.eqv neg ag ks x' y'=>decide (op=if neg then .neq else .eql)&&decide (tk P 20 t=some ks)&&decide (ZF P t=ag)&&!P.eqGuardType P.depth t&&Zr x x'&&Zr y y'
 | .unOp op _ x,.un op' y=>decide (op=op')&&Zr x y
 | .convert s d x,.conv k y=>
  Zr x y&&(match P.underlying s,P.underlying d,k with
   |some _,some<|.int k',some k=>decide (k=k')
   |some _,some .string,none=>true
   |_,_,_=>false)
 | .field t x i,.fld n off y=>
  match V5 P t with
  |some fs=>(match fs[i]? with|some f=>decide (f.offset=off)&&Xv P f.type n&&Zr x y|none=>false)
  |none=>false
 | .fieldAddr t x i,.fadr off y=>
  match V5 P t with
  |some fs=>(match fs[i]? with|some f=>decide (f.offset=off)&&(match ZR P f.type with|some n=>decide (n≠0)|none=>false)&&Zr x y|none=>false)
  |none=>false
 | .indexAddr t x i,.iadr sz y j=>
  match isSlice P t with
  |some e=>decide (ZR P e=some sz)&&Zr x y&&Zr i j
  |none=>false
 | .indexAddr t x i,.aadr sz len y j=>
  match V4 P t with
  |some (n,e)=>decide (n=len)&&decide (ZR P e=some sz)&&Zr x y&&Zr i j
  |none=>false
 | .index t x i,.sidx y j=>V3 P t&&Zr x y&&Zr i j
 | .index t x i,.aidx n sz len y j=>
  match V4 P t with
  |some (m,e)=>decide (m=len)&&decide (ZR P e=some sz)&&Xv P e n&&Zr x y&&Zr i j
  |none=>false
 | .extract x i,.ext y j=>decide (i=j)&&Zr x y
 | .makeFunc fn f c,.mkf fn' f' c'=>decide (fn=fn')&&Wt f.toList f'&&Wt c.toList c'
 | .makeMap _ r,.mkm=>r.isNone
 | .insert t m k v,.ins ag kk m' k' v'=>
  match isMap P t with
  |some (kt,_)=>decide (tk P 20 kt=some kk)&&decide (ZF P kt=ag)&&Zr m m'&&Zr k k'&&Zr v v'
  |none=>false
 | .mapUpdate t m k v,.mupd ag kk m' k' v'=>
  match isMap P t with
  |some (kt,_)=>decide (tk P 20 kt=some kk)&&decide (ZF P kt=ag)&&Zr m m'&&Zr k k'&&Zr v v'
  |none=>false
 | .lookup t m k ok,.lkp ag kk ok' z m' k'=>
  match isMap P t with
  |some (kt,vt)=>decide (tk P 20 kt=some kk)&&decide (ZF P kt=ag)&&decide (ok=ok')&&KI P vt z&&Zr m m'&&Zr k k'
  |none=>false
 | .makeSlice t l c,.mks sz z bytes l' c'=>
  match isSlice P t with
  |some e=>(match P.info? e with|some i=>decide (i.size=sz)&&decide (i.bytes=bytes)&&(match i.zero with|some v=>Q3 v z|none=>false)|none=>false)&&Zr l l'&&Zr c c'
  |none=>false
 | .slice t x lo hi mx,.slc sz y lo' hi' mx'=>
  match isSlice P t with
  |some e=>decide (ZR P e=some sz)&&Zr x y&&VI lo lo'&&VI hi hi'&&VI mx mx'
  |none=>false
 | .slice t x lo hi none,.ssl y lo' hi'=>V3 P t&&Zr x y&&VI lo lo'&&VI hi hi'
 | .call c,.len k y=>
  match c.callee,c.args.toList,c.argTypes.toList with
  | .builtin .len,[x],[t]=>(match k with|0=>V3 P t|1=>(isSlice P t).isSome|2=>(isMap P t).isSome|_=>false)&&Zr x y
  |_,_,_=>false
 | .call c,.app _ sz bytes s x=>
  match c.callee,c.args.toList,c.argTypes.toList with
  | .builtin .append,[s',x'],[t,t2]=>
   (match isSlice P t with
    |some e=>(match P.info? e with|some i=>decide (i.size=sz)&&decide (i.bytes=bytes)&&(match i.zero with|some v=>decide (v.cells.size=sz)|none=>false)|none=>false)
    |none=>false)&&(P.underlying t2).isSome&&!MF P t2&&Zr s' s&&Zr x' x
  |_,_,_=>false
 | .call c,.apr sz bytes s x=>
  match c.callee,c.args.toList,c.argTypes.toList with
  | .builtin .append,[s',x'],[t,t2]=>
   (match isSlice P t with
    |some e=>(match P.info? e with|some i=>decide (i.size=sz)&&decide (i.bytes=bytes)&&(match i.zero with|some v=>decide (v.cells.size=sz)|none=>false)|none=>false)
    |none=>false)&&(P.underlying t2).isSome&&!MF P t2&&Zr s' s&&Zr x' x
  |_,_,_=>false
 | .call c,.mm mx x y=>
  match c.callee,c.args.toList with
  | .builtin .min,[x',y']=>!mx&&Zr x' x&&Zr y' y
  | .builtin .max,[x',y']=>mx&&Zr x' x&&Zr y' y
  |_,_=>false
 | .range t x,.rng y=>V3 P t&&Zr x y
 | .next x true,.nxt y=>Zr x y
 | .makeInterface t x,.mkif t' y=>decide (t=t')&&Zr x y&&(match P.underlying t with|some (.interface _)=>false|some _=>true|none=>false)
 |_,_=>false
def KJ{t e:TypeId}(hh:isSlice P t=some e):P.underlying t=some (.slice e):=by
 unfold isSlice at hh;split at hh
 .next e' he=>cases hh;exact he
 .cases hh
def Gd{t:TypeId}(hh:V3 P t=true):P.underlying t=some .string:=by
 unfold V3 at hh;split at hh
 .next he=>exact he
 .cases hh
def Ge{t k e:TypeId}(hh:isMap P t=some (k,e)):P.underlying t=some (.map k e):=by
 unfold isMap at hh;split at hh
 .next he=>cases hh;exact he
 .cases hh
def Rg{t e:TypeId}{n:Nat}(hh:V4 P t=some (n,e)):P.underlying t=some (.array n e):=by
 unfold V4 at hh;split at hh
 .next he=>cases hh;exact he
 .cases hh
def Rh{t:TypeId}{fs:Array Field}(hh:V5 P t=some fs):P.underlying t=some (.struct fs):=by
 unfold V5 at hh;split at hh
 .next he=>cases hh;exact he
 .cases hh
def Gf{t:TypeId}{z:AV}(hh:KI P t z=true):∃v,YH P t=some v/\Q3 v z=true:=by
 unfold KI at hh;split at hh
 .next v hv=>exact⟨v,hv,hh⟩
 .cases hh
def JW(gl:GlR E T X w)(hf:FrR T X w fr a.tmps){x:Option Operand}{y:Option Arg}(hc:VI x y=true):Xw T X w (y.map<|ev E fr) (x.map a.eval):=by
 cases x<;>cases y<;>simp[VI]at hc
 .trivial
 .exact evR gl hf hc
def MG{x:Operand}(hh:G9 x=true):x=.const (.slice none 0 0):=by
 unfold G9 at hh;split at hh
 .rfl
 .cases hh
def Qg{o:Oper}{s:Sem Value}(hs:execOp a.eval o=(do Pure.pure (Next.value<|<-s))){rv:Value}{w':World}(hr:s.run P w=.ok rv w'):(execOp a.eval o).run P w=.ok (.value rv) w':=by
 rw[hs];exact Cl s w hr
def Ri{o:Oper}{s:Sem Unit}(hs:execOp a.eval o=(do s;Pure.pure Next.skip)){w':World}(hr:s.run P w=.ok () w'):(execOp a.eval o).run P w=.ok .skip w':=by
 rw[hs];exact Cm s w hr
def MH{s:Sem Next}{aid sz:Nat}{rs:List Nat}(m:M T X h w)(hid:aid<=h.length)(hT:T aid=none)(h0:0<sz)(hs:s.run P w=.ok (.value<|.slice none 0 0) w):
 Sim P T X h w s (.sl aid 0 0 0 false,rs,some (aid,.row sz [])):=by
 have st:Step T w (upd T aid<|.row sz 0 none 0 0) w:=by
  refine⟨rfl,rfl,rfl,ZX0 _,λx c hx=>⟨c,by rw[upd_ne _ _<|by rintro rfl;rw[hT]at hx;cases hx];exact hx,.refl _⟩,λ_ _ _=>rfl,λx hx=>?_,λ_=>ZX0 _⟩
  obtain⟨b',c',h1,h2⟩:=hx;by_cases e:b'=aid
  .subst e;rw[upd_same]at h1;cases h1;cases h2
  .rw[upd_ne _ _ e]at h1;exact .inl ⟨b',c',h1,h2⟩
 refine⟨upd T aid<|.row sz 0 none 0 0,w,_,.inl hs,st,WZ m aid _ _ hid st (λ_ _ _ _ _ _=>rfl) (λr hr=>by cases hr) ⟨rfl,rfl,h0,ZX0 _,rfl⟩,?_⟩
 exact⟨⟨_,_,_,rfl⟩,sz,0,none,0,0,upd_same _ _ _,ZX0 _,ZX0 _,λ_=>⟨0,ZX0 _,ZX0 _,(λhh=>by cases hh),.inr ⟨rfl,none,rfl,λ_=>rfl⟩⟩⟩
def MI{op:BinOp}{t:TypeId}{x y:Operand}{v u:Value}(hg:∀vs us,v=.agg vs->u=.agg us->P.eqGuardType P.depth t=false)(hn:v≠.nilIface\/u≠.nilIface):(eqGuard op t x y v u).run P w=.ok () w:=by
 by_cases ho:op=.eql\/op=.neq
 .by_cases hv:∃vs us,v=.agg vs/\u=.agg us
  .obtain⟨vs,us,rfl,rfl⟩:=hv;exact run_eqGuard_agg w op t x y vs us<|hg _ _ rfl rfl
  .rcases ho with rfl|rfl
   all_goals
    cases v<;>cases u<;>first|rfl|exact(hv ⟨_,_,rfl,rfl⟩).elim|(simp at hn)
 .cases op<;>first|rfl|exact(ho<|.inl rfl).elim|exact(ho<|.inr rfl).elim
end Go.AM
namespace Go.AM
open Go
variable [Dr]
variable {P:Program} {E:Env} {T:Ty} {X:Xt} {w:World} {h:Hp} {fr:Fr} {a:Act}
mutual
def KK:(v:AV)->clean v=true->Zy v=true
 | .agg cs,h=>XW cs h
 | .tup cs,h=>XW cs h
 | .ifc _ v,h=>KK v h
 | .clo _ f c,h=>by
  simp only[clean,ZWT]at h;simp only[Zy,ZWT];exact⟨XW f h.1,XW c h.2⟩
 | .bot,_=>rfl
 | .bool _,_=>rfl
 | .int _ _,_=>rfl
 | .str _,_=>rfl
 | .nilp,_=>rfl
 | .nilsl,_=>rfl
 | .nilmap,_=>rfl
 | .nilfn,_=>rfl
 | .nilif,_=>rfl
 | .iptr _ _,_=>rfl
 | .isl _ _ _ _,_=>rfl
 | .imap _ _ _,_=>rfl
 | .ptr _ _ _ _,h=>by simp[clean]at h
 | .sl _ _ _ _ _,h=>by simp[clean]at h
 | .mp _,h=>by simp[clean]at h
 | .it _,h=>by simp[clean]at h
 | .yld _,h=>by simp[clean]at h
def XW:(vs:List AV)->Z4 vs=true->Zi vs=true
 |[],_=>rfl
 |v::vs,h=>by
  simp only[Z4,ZWT]at h;simp only[Zi,ZWT];exact⟨KK v h.1,XW vs h.2⟩
end
def V6{bw:Bool}{cs:List AV}(hh:okc bw cs=true):Zi cs=true:=by
 cases bw with
 |false=>exact XW cs hh
 |true=>exact hh
def Ty.empty:Ty:=λ_=>none
def XX(r:Nat):¬Ty.empty.rng r:=by
 rintro⟨b,c,hb,_⟩;cases hb
mutual
def Ww{X2:Xt}(h2:∀r,¬T.rng r->¬X r->¬X2 r):(v:AV)->(rv:Value)->Zy v=true->R T X w v rv->R Ty.empty X2 w v rv
 | .bot,_,_,_=>trivial
 | .bool _,_,_,h=>h
 | .int _ _,_,_,h=>h
 | .str _,_,_,h=>h
 | .nilp,_,_,h=>h
 | .nilsl,_,_,h=>h
 | .nilmap,_,_,h=>h
 | .nilfn,_,_,h=>h
 | .nilif,_,_,h=>h
 | .agg cs,v,hn,h=>by
  obtain⟨vs,rfl,h⟩:=h;exact⟨vs,rfl,XY h2 cs _ hn h⟩
 | .tup cs,v,hn,h=>by
  obtain⟨vs,rfl,h⟩:=h;exact⟨vs,rfl,XY h2 cs _ hn h⟩
 | .iptr bw cs,v,hn,h=>by
  obtain⟨r,o,rfl,q1,q2,q3,q4,q5⟩:=h;exact⟨r,o,rfl,XX r,λhb=>h2 r q1<|q2 hb,q3,q4,Gg h2 r cs o (V6 q3) q5⟩
 | .isl bw ex sz es,v,hn,h=>by
  obtain⟨ad,len,cap,rfl,q1,q2,q3,q4,q5⟩:=h;refine⟨ad,len,cap,rfl,q1,q2,q3,q4,?_⟩;rcases q5 with q5|⟨r,o,q6,q7,q8,q9,q10⟩
  .exact .inl q5
  .exact .inr ⟨r,o,q6,XX r,λhb=>h2 r q7<|q8 hb,q9,Gh h2 sz r es o (V6 q4) q10⟩
 | .imap bw ks vs,v,hn,h=>by
  obtain⟨r,es,clock,l,rfl,q1,q2,q3,q4,q5,q6,q7,q8⟩:=h;exact⟨r,es,clock,l,rfl,XX r,λhb=>h2 r q1<|q2 hb,q3,q4,q5,q6,XY h2 ks _ (V6 q3.1) q7,XY h2 vs _ (V6 q3.2) q8⟩
 | .ifc t x,v,hn,h=>by
  obtain⟨u,rfl,h⟩:=h;exact⟨u,rfl,Ww h2 x u hn h⟩
 | .clo fn first cap,v,hn,h=>by
  obtain⟨f,c,rfl,q1,q2⟩:=h;simp only[Zy,ZWT]at hn;exact⟨f,c,rfl,XY h2 first _ hn.1 q1,XY h2 cap _ hn.2 q2⟩
 | .ptr _ _ _ _,_,hn,_=>by simp[Zy]at hn
 | .sl _ _ _ _ _,_,hn,_=>by simp[Zy]at hn
 | .mp _,_,hn,_=>by simp[Zy]at hn
 | .it _,_,hn,_=>by simp[Zy]at hn
 | .yld _,_,hn,_=>by simp[Zy]at hn
def XY{X2:Xt}(h2:∀r,¬T.rng r->¬X r->¬X2 r):(vs:List AV)->(rs:List Value)->Zi vs=true->Rs T X w vs rs->Rs Ty.empty X2 w vs rs
 |[],_,_,h=>h
 |a::as,vs,hn,h=>by
  obtain⟨v,vr,rfl,q1,q2⟩:=h;simp only[Zi,ZWT]at hn;exact⟨v,vr,rfl,Ww h2 a v hn.1 q1,XY h2 as vr hn.2 q2⟩
def Gg{X2:Xt}(h2:∀r,¬T.rng r->¬X r->¬X2 r)(r:Nat):(cs:List AV)->(o:Nat)->Zi cs=true->ZV T X w r cs o->ZV Ty.empty X2 w r cs o
 |[],_,_,_=>trivial
 |a::as,o,hn,h=>by
  obtain⟨⟨v,q1,q2⟩,q3⟩:=h;simp only[Zi,ZWT]at hn;exact⟨⟨v,q1,Ww h2 a v hn.1 q2⟩,Gg h2 r as (o+1) hn.2 q3⟩
def Gh{X2:Xt}(h2:∀r,¬T.rng r->¬X r->¬X2 r)(sz r:Nat):(cs:List AV)->(o:Nat)->Zi cs=true->ZA T X w sz r cs o->ZA Ty.empty X2 w sz r cs o
 |[],_,_,_=>trivial
 |a::as,o,hn,h=>by
  simp only[Zi,ZWT]at hn;cases a with
  |agg cs=>
   obtain⟨q1,q2,q3⟩:=h;exact⟨q1,Gg h2 r cs o hn.1 q2,Gh h2 sz r as (o+sz) hn.2 q3⟩
  |_=>
   obtain⟨q1,⟨v,q2,q3⟩,q4⟩:=h;exact⟨q1,⟨v,q2,Ww h2 _ v hn.1 q3⟩,Gh h2 sz r as (o+sz) hn.2 q4⟩
end
mutual
def KL{T2:Ty}{X2:Xt}(h2:∀r,¬T.rng r->¬X r->¬T2.rng r/\¬X2 r):(v:AV)->(rv:Value)->clean v=true->R T X w v rv->R T2 X2 w v rv
 | .bot,_,_,_=>trivial
 | .bool _,_,_,h=>h
 | .int _ _,_,_,h=>h
 | .str _,_,_,h=>h
 | .nilp,_,_,h=>h
 | .nilsl,_,_,h=>h
 | .nilmap,_,_,h=>h
 | .nilfn,_,_,h=>h
 | .nilif,_,_,h=>h
 | .agg cs,v,hn,h=>by
  obtain⟨vs,rfl,h⟩:=h;exact⟨vs,rfl,VJ h2 cs _ hn h⟩
 | .tup cs,v,hn,h=>by
  obtain⟨vs,rfl,h⟩:=h;exact⟨vs,rfl,VJ h2 cs _ hn h⟩
 | .iptr bw cs,v,hn,h=>by
  obtain⟨r,o,rfl,q1,q2,q3,q4,q5⟩:=h;have hb:bw=false:=by simpa[clean]using hn
  subst hb;have:=h2 r q1<|q2 rfl;exact⟨r,o,rfl,this.1,λ_=>this.2,q3,q4,Rj h2 r cs o q3 q5⟩
 | .isl bw ex sz es,v,hn,h=>by
  obtain⟨ad,len,cap,rfl,q1,q2,q3,q4,q5⟩:=h;have hb:bw=false:=by simpa[clean]using hn
  subst hb;refine⟨ad,len,cap,rfl,q1,q2,q3,q4,?_⟩;rcases q5 with q5|⟨r,o,q6,q7,q8,q9,q10⟩
  .exact .inl q5
  .have:=h2 r q7<|q8 rfl;exact .inr ⟨r,o,q6,this.1,λ_=>this.2,q9,Rk h2 sz r es o q4 q10⟩
 | .imap bw ks vs,v,hn,h=>by
  obtain⟨r,es,clock,l,rfl,q1,q2,q3,q4,q5,q6,q7,q8⟩:=h;have hb:bw=false:=by simpa[clean]using hn
  subst hb;have:=h2 r q1<|q2 rfl;exact⟨r,es,clock,l,rfl,this.1,λ_=>this.2,q3,q4,q5,q6,VJ h2 ks _ q3.1 q7,VJ h2 vs _ q3.2 q8⟩
 | .ifc t x,v,hn,h=>by
  obtain⟨u,rfl,h⟩:=h;exact⟨u,rfl,KL h2 x u hn h⟩
 | .clo fn first cap,v,hn,h=>by
  obtain⟨f,c,rfl,q1,q2⟩:=h;simp only[clean,ZWT]at hn;exact⟨f,c,rfl,VJ h2 first _ hn.1 q1,VJ h2 cap _ hn.2 q2⟩
 | .ptr _ _ _ _,_,hn,_=>by simp[clean]at hn
 | .sl _ _ _ _ _,_,hn,_=>by simp[clean]at hn
 | .mp _,_,hn,_=>by simp[clean]at hn
 | .it _,_,hn,_=>by simp[clean]at hn
 | .yld _,_,hn,_=>by simp[clean]at hn
def VJ{T2:Ty}{X2:Xt}(h2:∀r,¬T.rng r->¬X r->¬T2.rng r/\¬X2 r):(vs:List AV)->(rs:List Value)->Z4 vs=true->Rs T X w vs rs->Rs T2 X2 w vs rs
 |[],_,_,h=>h
 |a::as,vs,hn,h=>by
  obtain⟨v,vr,rfl,q1,q2⟩:=h;simp only[Z4,ZWT]at hn;exact⟨v,vr,rfl,KL h2 a v hn.1 q1,VJ h2 as vr hn.2 q2⟩
def Rj{T2:Ty}{X2:Xt}(h2:∀r,¬T.rng r->¬X r->¬T2.rng r/\¬X2 r)(r:Nat):(cs:List AV)->(o:Nat)->Z4 cs=true->ZV T X w r cs o->ZV T2 X2 w r cs o
 |[],_,_,_=>trivial
 |a::as,o,hn,h=>by
  obtain⟨⟨v,q1,q2⟩,q3⟩:=h;simp only[Z4,ZWT]at hn;exact⟨⟨v,q1,KL h2 a v hn.1 q2⟩,Rj h2 r as (o+1) hn.2 q3⟩
def Rk{T2:Ty}{X2:Xt}(h2:∀r,¬T.rng r->¬X r->¬T2.rng r/\¬X2 r)(sz r:Nat):(cs:List AV)->(o:Nat)->Z4 cs=true->ZA T X w sz r cs o->ZA T2 X2 w sz r cs o
 |[],_,_,_=>trivial
 |a::as,o,hn,h=>by
  simp only[Z4,ZWT]at hn;cases a with
  |agg cs=>
   obtain⟨q1,q2,q3⟩:=h;exact⟨q1,Rj h2 r cs o hn.1 q2,Rk h2 sz r as (o+sz) hn.2 q3⟩
  |_=>
   obtain⟨q1,⟨v,q2,q3⟩,q4⟩:=h;exact⟨q1,⟨v,q2,KL h2 _ v hn.1 q3⟩,Rk h2 sz r as (o+sz) hn.2 q4⟩
end
def MJ{bw:Bool}:∀{n:Nat}{cs cs':List AV},ZC bw h n cs=some cs'->cs'.length=cs.length:=by
 intro n;induction n with
 |zero=>intro cs cs' hh;cases cs<;>simp[ZC]at hh
 |succ n ih=>
  intro cs cs' hh;cases cs with
  |nil=>simp[ZC]at hh;subst hh;rfl
  |cons c cs=>
   simp only[ZC]at hh;cases hc:Z4 (c::cs)with
   |true=>rw[hc]at hh;simp only[cond_true,Option.some.injEq]at hh;subst hh;rfl
   |false=>
    rw[hc]at hh;simp only[cond_false]at hh;split at hh
    .next x y h1 h2=>simp at hh;subst hh;simp[ih h2]
    .cases hh
def Bd{bw:Bool}{v:AV}{vs:List AV}(h1:okc bw [v]=true)(h2:okc bw vs=true):okc bw (v::vs)=true:=by
 cases bw<;>simp_all[okc,Z4,Zi]
def Be{bw:Bool}{v:AV}(hc:clean v=true):okc bw [v]=true:=by
 cases bw
 .simp[okc,Z4,hc]
 .simp[okc,Zi,KK v hc]
def Bf(T:Ty)(X X2:Xt)(w:World)(h:Hp)(bw:Bool)(n:Nat):Prop:=
 (∀(v v':AV),freeze bw h n v=some v'->okc bw [v']=true/\((∃cs,v=.agg cs)->∃cs cs',v=.agg cs/\v'=.agg cs'/\cs'.length=cs.length)/\((∀cs,v≠.agg cs)->∀cs,v'≠.agg cs)/\∀rv,R T X w v rv->R Ty.empty X2 w v' rv)/\
 (∀(vs vs':List AV),ZC bw h n vs=some vs'->okc bw vs'=true/\(∀rs,Rs T X w vs rs->Rs Ty.empty X2 w vs' rs)/\(∀r o,ZV T X w r vs o->ZV Ty.empty X2 w r vs' o)/\(∀sz r o,ZA T X w sz r vs o->ZA Ty.empty X2 w sz r vs' o))
def MK{X2:Xt}{bw:Bool}(m:M T X h w)(h2:∀r,¬T.rng r->¬X r->¬X2 r)(h3:bw=false->∀r,T.rng r->¬X2 r):∀n,Bf T X X2 w h bw n:=by
 intro n;induction n with
 |zero=>exact⟨λv v' hh=>by simp[freeze]at hh,λv v' hh=>by cases v<;>simp[ZC]at hh⟩
 |succ n ih=>
  constructor
  .intro v v' hh;simp only[freeze]at hh;cases hcl:clean v with
   |true=>
    rw[hcl]at hh;simp only[cond_true,Option.some.injEq]at hh;subst hh;exact⟨Be hcl,λ⟨cs,hc⟩=>⟨cs,cs,hc,hc,rfl⟩,λhc=>hc,λrv hr=>Ww h2 v rv (KK v hcl) hr⟩
   |false=>
    rw[hcl]at hh;simp only[cond_false]at hh;cases v<;>(first|(simp only[reduceCtorEq]at hh;done)|dsimp only at hh|skip)
    case agg cs=>
     simp only[ZXi]at hh;obtain⟨cs',hf,rfl⟩:=hh;obtain⟨q1,q2,_,_⟩:=ih.2 _ _ hf;refine⟨by cases bw<;>simpa[okc,Z4,clean,Zi,Zy]using q1,λ_=>⟨cs,cs',rfl,rfl,MJ hf⟩,λhc=>(hc cs rfl).elim,?_⟩
     rintro rv ⟨vs,rfl,hr⟩;exact⟨vs,rfl,q2 _ hr⟩
    case tup cs=>
     simp only[ZXi]at hh;obtain⟨cs',hf,rfl⟩:=hh;obtain⟨q1,q2,_,_⟩:=ih.2 _ _ hf;refine⟨by cases bw<;>simpa[okc,Z4,clean,Zi,Zy]using q1,(λ⟨cs,hc⟩=>by cases hc),(λ_ cs hc=>by cases hc),?_⟩
     rintro rv ⟨vs,rfl,hr⟩;exact⟨vs,rfl,q2 _ hr⟩
    case ifc t x=>
     simp only[ZXi]at hh;obtain⟨x',hf,rfl⟩:=hh;obtain⟨q1,_,_,q2⟩:=ih.1 _ _ hf;refine⟨by cases bw<;>simpa[okc,Z4,clean,Zi,Zy]using q1,(λ⟨cs,hc⟩=>by cases hc),(λ_ cs hc=>by cases hc),?_⟩
     rintro rv ⟨u,rfl,hr⟩;exact⟨u,rfl,q2 _ hr⟩
    case clo fn first cap=>
     split at hh
     .next f' c' hf hc=>
      simp only[Option.some.injEq]at hh;subst hh;obtain⟨q1,q2,_,_⟩:=ih.2 _ _ hf;obtain⟨q3,q4,_,_⟩:=ih.2 _ _ hc;refine⟨by cases bw<;>simp_all[okc,Z4,clean,Zi,Zy],(λ⟨cs,hc⟩=>by cases hc),(λ_ cs hc=>by cases hc),?_⟩
      rintro rv ⟨f,c,rfl,r1,r2⟩;exact⟨f,c,rfl,q2 _ r1,q4 _ r2⟩
     .cases hh
    case iptr b cs=>
     cases b with
     |false=>simp at hh
     |true=>
      cases bw with
      |false=>simp at hh
      |true=>
       simp at hh;subst hh;exact⟨rfl,(λ⟨cs,hc⟩=>by cases hc),(λ_ cs hc=>by cases hc),λrv hr=>Ww h2 _ rv rfl hr⟩
    case isl b ex sz es=>
     cases b with
     |false=>simp at hh
     |true=>
      cases bw with
      |false=>simp at hh
      |true=>
       simp at hh;subst hh;exact⟨rfl,(λ⟨cs,hc⟩=>by cases hc),(λ_ cs hc=>by cases hc),λrv hr=>Ww h2 _ rv rfl hr⟩
    case imap b ks vs=>
     cases b with
     |false=>simp at hh
     |true=>
      cases bw with
      |false=>simp at hh
      |true=>
       simp at hh;subst hh;exact⟨rfl,(λ⟨cs,hc⟩=>by cases hc),(λ_ cs hc=>by cases hc),λrv hr=>Ww h2 _ rv rfl hr⟩
    case ptr b i off g=>
     cases hb:h[b]? with
     |none=>rw[hb]at hh;cases hh
     |some o=>
      rw[hb]at hh;cases o<;>(first|(simp only[reduceCtorEq]at hh;done)|dsimp only at hh|skip)
      case row sz es=>
       cases hg:(es.length==g)with
       |false=>rw[hg]at hh;cases hh
       |true=>
        rw[hg]at hh;simp only[cond_true]at hh;cases hi:es[i]? with
        |none=>rw[hi]at hh;cases hh
        |some e=>
         rw[hi]at hh;simp only[ZXi]at hh;obtain⟨cs',hf,rfl⟩:=hh;obtain⟨q1,_,q3,_⟩:=ih.2 _ _ hf;refine⟨by cases bw<;>rfl,(λ⟨cs,hc⟩=>by cases hc),(λ_ cs hc=>by cases hc),?_⟩
         intro rv hr;obtain⟨r,C,B,cs,el,hT,rfl,hilt,k1,k2,k3,k4,k5⟩:=JU m hb hr<|by simpa using hg
         obtain⟨k6,k7⟩:=Kw i k5 hi;rw[<-ZXw]at k7;have hrng:T.rng r:=⟨b,_,hT,rfl⟩;exact⟨r,(B+i)*sz+off,rfl,XX r,λhb=>h3 hb r hrng,q1,m.lt r hrng,q3 _ _<|Ku off k7⟩
    case sl b g off len ex=>
     cases hb:h[b]? with
     |none=>rw[hb]at hh;cases hh
     |some o=>
      rw[hb]at hh;cases o<;>(first|(simp only[reduceCtorEq]at hh;done)|dsimp only at hh|skip)
      case row sz es=>
       cases hg:(es.length==g)with
       |false=>rw[hg]at hh;cases hh
       |true=>
        rw[hg]at hh;simp only[cond_true,ZXi]at hh;obtain⟨cs',hf,rfl⟩:=hh;obtain⟨q1,_,_,q4⟩:=ih.2 _ _ hf;have hlen:=MJ hf;refine⟨by cases bw<;>rfl,(λ⟨cs,hc⟩=>by cases hc),(λ_ cs hc=>by cases hc),?_⟩
        intro rv hr;have hg':es.length=g:=by simpa using hg
        obtain⟨r,C,B,hT,k0,hC,hrow⟩:=XV m hb;obtain⟨_,sz2,g2,r2,C2,B2,hT2,k1,k2,k3⟩:=hr;rw[hT]at hT2;cases hT2;obtain⟨cap,k4,k5,k6,k7⟩:=k3 hg'.symm;have hl:cs'.length=len:=by rw[hlen];simp;omega
        rcases k7 with⟨r',rfl,rfl⟩|⟨rfl,p,rfl,k8⟩
        .obtain⟨cells,el,j1,j2,j3⟩:=hrow;have hrng:T.rng r':=⟨b,_,hT,rfl⟩;refine⟨_,_,_,rfl,hl.symm,k4,λhx=>k6 (by simp at hx;exact hx.2),q1,.inr ⟨r',(B+off)*sz,rfl,XX r',λhb=>h3 hb r' hrng,m.lt r' hrng,?_⟩⟩
         refine q4 _ _ _ ?_;have:=UV len<|UU off j3;rw[ZXw];exact this
        .have hl0:len=0:=by omega
         refine⟨_,_,_,rfl,by omega,ZX0 _,λ_=>rfl,q1,.inl ?_⟩
         exact ZYz.1<|by omega
    case mp b=>
     cases hb:h[b]? with
     |none=>rw[hb]at hh;cases hh
     |some o=>
      rw[hb]at hh;cases o<;>(first|(simp only[reduceCtorEq]at hh;done)|dsimp only at hh|skip)
      case map ks vs=>
       cases hck:Z4 ks with
       |false=>rw[hck]at hh;cases hh
       |true=>
        rw[hck]at hh;simp only[cond_true,ZXi]at hh;obtain⟨vs',hf,rfl⟩:=hh;obtain⟨q1,q2,_,_⟩:=ih.2 _ _ hf;refine⟨by cases bw<;>rfl,(λ⟨cs,hc⟩=>by cases hc),(λ_ cs hc=>by cases hc),?_⟩
        rintro rv ⟨r,hT,rfl⟩;obtain⟨r2,es,clock,l,hT2,k1,k2,k3,k4,k5⟩:=JS m hb;rw[hT]at hT2;cases hT2;have hrng:T.rng r:=⟨b,_,hT,rfl⟩;refine⟨r,es,clock,l,rfl,XX r,λhb=>h3 hb r hrng,⟨?_,q1⟩,k1,k2,k3,XY h2 ks _ (XW ks hck) k4,q2 _ k5⟩
        cases bw
        .exact hck
        .exact XW ks hck
  .intro vs vs' hh;cases hcl:Z4 vs with
   |true=>
    simp only[ZC,hcl,cond_true,Option.some.injEq]at hh;subst hh;have hn:=XW vs hcl;exact⟨by cases bw<;>first|exact hcl|exact hn,λrs hr=>XY h2 vs rs hn hr,λr o hr=>Gg h2 r vs o hn hr,λsz r o hr=>Gh h2 sz r vs o hn hr⟩
   |false=>
   cases vs with
   |nil=>simp[Z4]at hcl
   |cons v vs=>
    simp only[ZC,hcl,cond_false]at hh;split at hh
    .next x y h1 h2'=>
     simp only[Option.some.injEq]at hh;subst hh;obtain⟨q1,q2,q3,q4⟩:=ih.1 _ _ h1;obtain⟨p1,p2,p3,p4⟩:=ih.2 _ _ h2';refine⟨Bd q1 p1,?_,?_,?_⟩
     .rintro rs ⟨u,ur,rfl,r1,r2⟩;exact⟨u,ur,rfl,q4 _ r1,p2 _ r2⟩
     .rintro r o ⟨⟨u,r1,r2⟩,r3⟩;exact⟨⟨u,r1,q4 _ r2⟩,p3 _ _ r3⟩
     .intro sz r o hrow;by_cases hag:∃cs,v=.agg cs
      .obtain⟨cs,cs',rfl,rfl,hlen⟩:=q2 hag;obtain⟨r1,r2,r3⟩:=hrow;refine⟨hlen.trans r1,?_,p4 _ _ _ r3⟩;have:=Kv r2;obtain⟨us,u1,u2⟩:=this;have hrr:=q4 (.agg us.toArray) ⟨us.toArray,rfl,by simpa using u2⟩
       obtain⟨ws,hws,hrs⟩:=hrr;cases hws;exact Xs (by simpa using hrs) u1
      .have hx:=q3 (λcs hc=>hag ⟨cs,hc⟩)
       have hrow':sz=1/\(∃u,World.at w r o=some u/\R T X w v u)/\ZA T X w sz r vs (o+sz):=by
        cases v<;>first|exact hrow|exact(hag ⟨_,rfl⟩).elim
       obtain⟨r1,⟨u,r2,r3⟩,r4⟩:=hrow';have goal:sz=1/\(∃u,World.at w r o=some u/\R Ty.empty X2 w x u)/\ZA Ty.empty X2 w sz r y (o+sz):=⟨r1,⟨u,r2,q4 _ r3⟩,p4 _ _ _ r4⟩;cases x<;>first|exact goal|exact(hx _ rfl).elim
    .cases hh
end Go.AM
namespace Go.AM
open Go
variable [Dr]
variable {P:Program} {E:Env} {T:Ty} {X:Xt} {w:World} {h:Hp} {fr:Fr} {a:Act}
def Qa(ro:Option Nat):Fence:={Fence.wide with round:=ro}
def VK(ro:Option Nat)(f:FuncId):(Qa ro).fn f:=trivial
def Rl(ro:Option Nat)(n:Nat):(Qa ro).depth.isSome=true->1<=n:=λh=>by cases h
def Bg(ro:Option Nat)(l:Nat):(Qa ro).inRound l=Qa (some l):=rfl
def Rm{ro:Option Nat}{n:Nat}{f:FuncId}{args:Array Value}{K:Ending->World->Prop}:CallsIn (Qa ro) n P f args w K↔Calls P f args w K:=
 (callsIn_wide (n:=n):CallsIn Fence.wide n P f args w K↔_)
def YI(P:Program)(r:Result Next)(w:World)(K:Value->World->Prop):Prop:=
 (∃rv w',r=.ok (.value rv) w'/\K rv w')\/
 (∃f args,r=.ok (.enter f args) w/\Calls P f args w λe w'=>∃rv,e=.returned rv/\K rv w')\/
 (∃l g tmps as bd,r=.ok (.round l g tmps as bd) w/\∀n ro,RoundIn (Qa ro) n P l g tmps as bd w λe w'=>∃rv,e=.returned rv/\K rv w')
def YI.mono{r:Result Next}{K K':Value->World->Prop}(hk:∀v w',K v w'->K' v w')(hr:YI P r w K):YI P r w K':=by
 rcases hr with⟨rv,w',h1,h2⟩|⟨f,args,h1,h2⟩|⟨l,g,tmps,as,bd,h1,h2⟩
 .exact .inl ⟨rv,w',h1,hk _ _ h2⟩
 .exact .inr<|.inl ⟨f,args,h1,h2.mono λe w'⟨rv,he,hq⟩=>⟨rv,he,hk _ _ hq⟩⟩
 .exact .inr<|.inr ⟨l,g,tmps,as,bd,h1,λn ro=>(h2 n ro).mono λe w'⟨rv,he,hq⟩=>⟨rv,he,hk _ _ hq⟩⟩
def YI.upon{r:Result Next}{K:Value->World->Prop}(hr:YI P r w K){o:Oper}{ro:Option Nat}{n:Nat}{next:Act->World->Prop}{Q:Exit->Act->World->Prop}
 (hn:∀rv w',K rv w'->next (a.put o.dst rv) w'):o.uponIn (Qa ro) n P a next Q r:=by
 rcases hr with⟨rv,w',rfl,h2⟩|⟨f,args,rfl,h2⟩|⟨l,g,tmps,as,bd,rfl,h2⟩
 .exact hn _ _ h2
 .refine⟨Rl ro n,Rm.2<|h2.mono ?_⟩;rintro e w' ⟨rv,rfl,hq⟩;exact hn _ _ hq
 .refine⟨Rl ro n,(h2 _ ro).mono ?_⟩;rintro e w' ⟨rv,rfl,hq⟩;exact hn _ _ hq
def Yq(T:Ty)(X:Xt)(w:World)(h':Hp)(v:AV)(rv:Value)(w':World):Prop:=∃T',Step T w T' w'/\M T' X h' w'/\R T' X w' v rv
def ZQZ{T':Ty}{w':World}{v:AV}{g:Nat}(st:Step T w T' w')(hr:R T X w v<|.pointer<|some ⟨g,0,none⟩)(hs:GlS w g v):GlS w' g v:=by
 cases v with
 |iptr bw cs=>
  obtain⟨r,o,e,h1,h2,h3,h4,h5⟩:=hr;cases e;obtain⟨c,t,f,hh,hl⟩:=hs;exact⟨c,t,f,(st.keep _ h4 h1).trans hh,hl⟩
 |_=>trivial
def Ctx.step{T':Ty}{w':World}{h':Hp}(c:Ctx E T X h w)(st:Step T w T' w')(m:M T' X h' w'):Ctx E T' X h' w':=
 ⟨m,λg=>⟨HR st _ _ (c.gl g).1,ZQZ st (c.gl g).1 (c.gl g).2⟩,λr hr=>ZY3 (c.hX r hr) st.size⟩
def Marks(T:Ty)(w:World)(base:Nat)(ds:List Deferred):Prop:=
 ∃rs:List Nat,ds=rs.map (λr=>{target:=.collected r,args:=#[]})/\rs.Nodup/\∀r∈rs,base<=r/\Wn T w r
def Marks.step{T':Ty}{w':World}{base:Nat}{ds:List Deferred}(hm:Marks T w base ds)(st:Step T w T' w'):Marks T' w' base ds:=by
 obtain⟨rs,h1,h2,h3⟩:=hm;exact⟨rs,h1,h2,λr hr=>⟨(h3 r hr).1,Md st (h3 r hr).2⟩⟩
structure St(E:Env)(T:Ty)(X:Xt)(h:Hp)(w:World)(fr:Fr)(base sz:Nat)(a:Act):Prop where
 c:Ctx E T X h w
 f:FrR T X w fr a.tmps
 sz:a.tmps.size=sz
 marks:Marks T w base a.defers
 base:base<=w.heap.size
def ML{tmps:Array Value}{d:Nat}{v:AV}{rv:Value}(hf:FrR T X w fr tmps)(hv:R T X w v rv)(hd:d<tmps.size):FrR T X w (put fr d v) (tmps.setIfInBounds d rv):=by
 intro t;simp only[put,get];by_cases e:d=t
 .subst e;simp only[beq_self_eq_true,cond_true];rw[ZXC,ZZn hd];exact hv
 .have hb:(d==t)=false:=by simpa using e
  simp only[hb,cond_false];rw[ZXC,ZZo e,<-ZXC];exact hf t
def JX(N:Nat):Option Nat->Option Nat->Bool
 |none,none=>true
 |some t,some d=>t==d&&Nat.blt t N
 |_,_=>false
def JY(N:Nat)(ops:Array Oper):Option (Nat×Bool)->Option (Nat×Bool)->Bool
 |none,none=>true
 |some (j,b),some (t,c)=>b==c&&(match(ops[j]?).bind (·.dst)with|some d=>d==t&&Nat.blt d N|none=>false)
 |_,_=>false
def Wx:Op->AOp->Bool
 | .call c,.call _ f args=>(match c.callee with| .value (.func g)=>g==f|_=>false)&&Wt c.args.toList args
 | .call c,.callv _ x args=>(match c.callee with| .value y=>Zr y x|_=>false)&&Wt c.args.toList args
 |_,_=>false
def X6(P:Program)(N:Nat)(ops:Array Oper)(o:Oper)(q:AOper):Bool:=
 JX N o.dst q.dst&&JY N ops o.guard q.guard&&(match q.op with| .apa sz b s x=>Gb P o.op (.app false sz b s x)|op=>bif op.isCall then Wx o.op op else Gb P o.op op)
def X7(P:Program)(N:Nat)(ops:Array Oper):List Oper->List AOper->Bool
 |[],[]=>true
 |o::os,q::qs=>X6 P N ops o q&&X7 P N ops os qs
 |_,_=>false
def Gi{T':Ty}{w':World}{h':Hp}{v:AV}{rv:Value}{base sz N:Nat}{d:Option Nat}{dst:Option Nat}(s:St E T X h w fr base sz a)(hN:N<=sz)(hd:JX N d dst=true)
 (st:Step T w T' w') (m:M T' X h' w') (hv:R T' X w' v rv):St E T' X h' w' (ZB fr dst v) base sz (a.put d rv):=by
 have c':=s.c.step st m;have hf:=Kr st s.f;cases d with
 |none=>
  cases dst with
  |some t=>simp[JX]at hd
  |none=>exact⟨c',hf,s.sz,s.marks.step st,ZXG s.base st.size⟩
 |some d=>
  cases dst with
  |none=>simp[JX]at hd
  |some t=>
   simp only[JX,ZWT,beq_iff_eq,ZXT]at hd;obtain⟨rfl,hlt⟩:=hd;refine⟨c',ML hf hv (by have:=s.sz;omega),?_,s.marks.step st,ZXG s.base st.size⟩
   simp only[Act.put,ZZd];exact s.sz
def MM{tmps:Array Value}{ops:Array Oper}{N:Nat}{o:Oper}{g:Option (Nat×Bool)}{b:Bool}(hf:FrR T X w fr tmps)(hN:N<=tmps.size)(hc:JY N ops o.guard g=true)
 (hw:ZJ fr g=some b):Region.wanted o (yielded ops tmps)=b:=by
 cases hg:o.guard with
 |none=>
  rw[hg]at hc;cases g with
  |some _=>simp[JY]at hc
  |none=>
   simp only[ZJ,Option.some.injEq]at hw;subst hw;simp[Region.wanted,hg]
 |some p=>
  obtain⟨j,want⟩:=p;rw[hg]at hc;cases g with
  |none=>simp[JY]at hc
  |some q=>
   obtain⟨t,c⟩:=q;simp only[JY,ZWT,beq_iff_eq]at hc;obtain⟨rfl,hc⟩:=hc;cases hd:(ops[j]?).bind (·.dst)with
   |none=>rw[hd]at hc;cases hc
   |some d=>
    rw[hd]at hc;simp only[ZWT,beq_iff_eq,ZXT]at hc;obtain⟨rfl,hlt⟩:=hc;simp only[ZJ]at hw;cases hgt:get fr d with
    |bool x=>
     rw[hgt]at hw;simp only[Option.some.injEq]at hw;subst hw;have hr:=hf d;rw[hgt]at hr;have hr:tmps.getD d undef=.bool x:=hr;have hlt':d<tmps.size:=ZY3 hlt hN;have:tmps[d]?=some (.bool x):=by
      rw[ZXH hlt'];rw[ZXC,ZXH hlt']at hr;exact congrArg some hr
     simp only[Region.wanted,hg,yielded,hd,Option.bind_some,this];cases x<;>cases want<;>rfl
    |tup vs=>
     cases vs with
     |cons _ _=>rw[hgt]at hw;simp at hw
     |nil=>
      rw[hgt]at hw;simp only[Option.some.injEq]at hw;subst hw;have hr:=hf d;rw[hgt]at hr;obtain⟨us,hr,h0⟩:=hr;have h0:us.toList=[]:=h0;have hus:us = #[]:=by apply ZXV;simpa using h0
      subst hus;have hlt':d<tmps.size:=ZY3 hlt hN;have:tmps[d]?=some (.tuple #[]):=by
       rw[ZXH hlt'];rw[ZXC,ZXH hlt']at hr;exact congrArg some hr
      simp only[Region.wanted,hg,yielded,hd,Option.bind_some,this];rfl
    |_=>rw[hgt]at hw;simp at hw
end Go.AM
namespace Go.AM
open Go
variable [Dr]
variable {P:Program} {E:Env} {T:Ty} {X:Xt} {w:World} {h:Hp} {fr:Fr} {a:Act}
def KM(ms:List Nat)(o:Oper):Nat:=o.after.toList.foldl (λm e=>bif Region.binds .any e then(m ||| (1 <<< e.on)) ||| (ms.getD e.on 0)else m) 0
def YS:List Oper->List Nat->List Nat
 |[],ms=>ms
 |o::os,ms=>YS os<|ms++[KM ms o]
def MN:Option (Nat×Bool)->List Nat
 |some (t,_)=>[t]
 |none=>[]
def AOper.reads(q:AOper):List Nat:=q.op.slots++MN q.guard
def XZ(x y:AOper):Bool:=
 (match x.dst with|none=>true|some t=>!(y.reads.contains t)&&!(y.dst==some t))&&
 (match y.dst with|none=>true|some t=>!(x.reads.contains t))
def Rn(m:Nat)(p1:List AOper)(i:Nat)(q:AOper)(u:List Nat):Bool:=
 (List.range i).all λj=>m.testBit j||(match p1[j]? with|some x=>(u.contains j||(X3 x.op&&X3 q.op))&&XZ x q|none=>false)
def JZ(ms:List Nat)(p1:List AOper):Nat->List AOper->List (List Nat)->Bool
 |_,[],[]=>true
 |i,q::qs,u::us=>Rn (ms.getD i 0) p1 i q u&&JZ ms p1 (i+1) qs us
 |_,_,_=>false
def KO:Nat->List Oper->Bool
 |_,[]=>true
 |i,o::os=>o.after.toList.all (λe=>!Region.binds .any e||Nat.blt e.on i)&&KO (i+1) os
def MO(m:Nat)(i:Nat):Bool:=(List.range i).all λj=>m.testBit j
def Gj(P:Program)(N:Nat)(ops:Array Oper)(un:List<|List Nat)(p1 p2:List AOper):Bool:=
 P.follows .mixedOrders&&KO 0 ops.toList&&X7 P N ops ops.toList (p1++p2)&&JZ (YS ops.toList []) p1 0 p1 un&&
  (List.range p2.length).all λk=>MO ((YS ops.toList []).getD (p1.length+k) 0)<|p1.length+k
def ZvV:AV->List (Nat×Nat)->Bool
 | .agg cs,ps=>ps.all λp=>decide (0<p.2)&&(match cs[p.1]? with|some (.isl _ _ _ [])=>true|_=>false)
 | .isl _ _ _ [],[(0,s)]=>decide (0<s)
 |_,_=>false
def QZ(P:Program)(N:Nat):Bool->Code->ACode->Bool
 |_,.skip,.skip=>true
 |_,.label _,.skip=>true
 |_,.region _ ops false,.region qs=>X7 P N ops ops.toList qs
 |_,.region _ ops false,.zbox d sz z ps=>X7 P N ops ops.toList [⟨some d,.box sz<|.c z,none⟩]&&(ops.toList.all (λo=>match o.op with| .alloc _=>true|_=>false)&&ZvV z ps)
 |_,.region _ ops false,.nils s d off p=>X7 P N ops ops.toList [⟨some d,.fadr off p,none⟩,⟨none,.store 1 (.t d)<|.c<|.isl false false s [],none⟩]&&decide (0<s)
 |_,.region _ ops true,.draw un p1 p2=>Gj P N ops un p1 p2
 |rd,.seq a b,.seq x y=>QZ P N rd a x&&QZ P N rd b y
 |rd,.cond c a b,.cond d x y=>Zr c d&&QZ P N rd a x&&QZ P N rd b y
 |rd,.block i a,.block j x=>i==j&&QZ P N rd a x
 |rd,.loop a,.loop _ x=>QZ P N rd a x
 |rd,.rangeFunc g ps as bd,.rangeFunc f qs x y=>
  !rd&&Zr g f&&decide (ps.toList=qs)&&qs.all (λp=>Nat.blt p N)&&QZ P N true as x&&QZ P N true bd y
 |_,.exit i,.exit j=>i==j
 |_,.ret,.ret=>true
 |rd,c,.keep _ x=>QZ P N rd c x
 |rd,c,.ghost _ _ _ x=>QZ P N rd c x
 |_,_,_=>false
def Chk(P:Program)(n:Nat)(c:Code)(q:ACode):Prop:=∃N,N<=n/\QZ P N true c q=true
def YJ(P:Program):List ResultVar->List ResVar->Bool
 |[],[]=>true
 | .tmp t::r,.tmp u::s=>t==u&&YJ P r s
 | .cell b t::r,.cell u n::s=>b==u&&Xv P t n&&YJ P r s
 |_,_=>false
def Qn(P:Program)(E:Env)(f:Nat)(s:List AV->Hp->Option (AV×Hp)):Prop:=
 ∀args h v h',s args h=some (v,h')->∀(T:Ty)(X:Xt)(w:World)(rargs:Array Value),X.cr=Chk P->Ctx E T X h w->Rs T X w args rargs.toList->
  YI P ((callFunc f rargs).run P w) w (Yq T X w h' v)
def ZEs(P:Program)(E:Env)(f:Nat)(s:List AV->Nat->List AV->Option (List AV)):Prop:=
 ∀args h v wr,ZE8 s h args=some (v,wr)->∀(T:Ty)(X:Xt)(w:World)(rargs:Array Value),X.cr=Chk P->Ctx E T X h w->Rs T X w args rargs.toList->
  YI P ((callFunc f rargs).run P w) w (Yq T X w (ZH h wr) v)
structure EnvOk(P:Program)(E:Env):Prop where
 gl:∀g,clean (E.gl g)=true
 fn:∀f q,E.fn f=some q->∃(fn:Func)(c:Code),P.funcs[f]?=some fn/\(fn.name=="runtime.NumGoroutine")=false/\fn.body=some c/\QZ P fn.ntmps false c q.body=true/\YJ P fn.results.toList q.res=true
 sum:∀f s,E.sum f=some s->Qn P E f s
 rs:∀f s,E.rs f=some s->ZEs P E f s
def exR:AExit->Exit
 | .normal=>.normal
 | .exit id=>.exit id
 | .ret=>.ret
structure AllOk(P:Program)(E:Env)(k:Nat):Prop where
 rsum:∀f s,E.rs f=some s->ZEs P E f s
 fn:∀f args h v h',Qz E k f args h=some (v,h')->∀(T:Ty)(X:Xt)(w:World)(rargs:Array Value),X.cr=Chk P->Ctx E T X h w->Rs T X w args rargs.toList->
  YI P ((callFunc f rargs).run P w) w (Yq T X w h' v)
 body:∀f args h v h',QX E k f args h=some (v,h')->∀(T:Ty)(X:Xt)(w:World)(rargs:Array Value),X.cr=Chk P->Ctx E T X h w->Rs T X w args rargs.toList->
  (callFunc f rargs).run P w=.ok (.enter f rargs) w/\Calls P f rargs w λe w'=>∃rv,e=.returned rv/\Yq T X w h' v rv w'
 call:∀p f args h v h',Qm E k p f args h=some (v,h')->∀(T:Ty)(X:Xt)(w:World)(rargs:Array Value),X.cr=Chk P->Ctx E T X h w->Rs T X w args rargs.toList->
  YI P ((callFunc f rargs).run P w) w (Yq T X w h' v)
 yield:∀b args h v h',YG E k b args h=some (v,h')->∀(T:Ty)(X:Xt)(w:World)(rargs:Array Value)(l:Nat),X.cr=Chk P->Ctx E T X h w->Rs T X w args rargs.toList->T b=some (.loop l)->
  YI P ((Instr.yield l rargs).run P w) w (Yq T X w h' v)
 callv:∀p f args h v h',QQ E k p f args h=some (v,h')->∀(T:Ty)(X:Xt)(w:World)(fv:Value)(rargs:Array Value),X.cr=Chk P->Ctx E T X h w->R T X w f fv->Rs T X w args rargs.toList->
  YI P ((do let d <-Deferred.ofValue fv rargs;invoke d.target d.args:Sem Next).run P w) w (Yq T X w h' v)
 op:∀q fr h fr' h',Q5 E k q fr h=some (fr',h')->∀(T:Ty)(X:Xt)(w:World)(a:Act)(N:Nat)(ops:Array Oper)(o:Oper)(base sz:Nat)(ro:Option Nat)(n:Nat),
  X.cr=Chk P->N<=sz->X6 P N ops o q=true->St E T X h w fr base sz a->∀(next:Act->World->Prop)(Q:Exit->Act->World->Prop),
  (∀T' a' w',Step T w T' w'->St E T' X h' w' fr' base sz a'->next a' w')->
  if Region.wanted o (yielded ops a.tmps)=true then o.wpIn (Qa ro) n P a w next Q else(∀f,o.about P w a.eval=some f->(Qa ro).fn f)/\next (a.put o.dst undef) w
 ops:∀qs fr h fr' h',ZS E k qs fr h=some (fr',h')->∀(T:Ty)(X:Xt)(w:World)(a:Act)(N:Nat)(ops:Array Oper)(os:List Oper)(base sz:Nat)(ro:Option Nat)(n:Nat),
  X.cr=Chk P->N<=sz->X7 P N ops os qs=true->St E T X h w fr base sz a->∀(Q:Exit->Act->World->Prop),
  (∀T' a' w',Step T w T' w'->St E T' X h' w' fr' base sz a'->Q .normal a' w')->wpListIn (Qa ro) n P ops Q os a w
 code:∀q fr h e fr' h',Ze E k q fr h=some (e,fr',h')->∀(T:Ty)(X:Xt)(w:World)(a:Act)(N:Nat)(c:Code)(base sz:Nat)(rd:Bool)(ro:Option Nat)(n:Nat),
  X.cr=Chk P->N<=sz->QZ P N rd c q=true->(rd=false->ro=none)->St E T X h w fr base sz a->∀(Q:Exit->Act->World->Prop),
  (∀T' a' w',Step T w T' w'->St E T' X h' w' fr' base sz a'->Q (exR e) a' w')->c.wpIn (Qa ro) n P Q a w
 rounds:∀live q fr h e fr' h',Ze E k (.loop live q) fr h=some (e,fr',h')->∀(T:Ty)(X:Xt)(w:World)(a:Act)(N:Nat)(c:Code)(base sz:Nat)(rd:Bool)(ro:Option Nat)(n:Nat),
  X.cr=Chk P->N<=sz->QZ P N rd c q=true->(rd=false->ro=none)->St E T X h w fr base sz a->∀(Q:Exit->Act->World->Prop),
  (∀T' a' w',Step T w T' w'->St E T' X h' w' fr' base sz a'->Q (exR e) a' w')->Code.roundsIn (Qa ro) n P c Q k a w
def MP(T:Ty)(w:World){D:Nat}{ds:Option (List Deferred)}(hD:w.heap[D]?=some (.deferred ds))(ds':Option<|List Deferred):Stp T w T (w.putObj D<|.deferred ds'):=by
 have hx:∀b,b≠D->(w.putObj D<|.deferred ds').heap[b]?=w.heap[b]?:=λb hb=>World.putObj_heap_other hb
 have hlt:D<w.heap.size:=(ZXN.1 hD).1;have hself:(w.putObj D<|.deferred ds').heap[D]?=some (.deferred ds'):=by simp[World.putObj,hlt]
 refine⟨by simp[World.putObj],λb c hb=>⟨c,hb,.refl c⟩,λb _ _ o=>?_,λb es c _ _ hb=>?_,λb hb=>.inl hb⟩
 .by_cases e:b=D
  .subst e;simp[World.at,World.cell?,hself,hD]
  .exact at_eq<|hx b e
 .by_cases e:b=D
  .subst e;rw[hD]at hb;cases hb
  .rw[hx b e];exact hb
def Bh(m:M T X h w){D:Nat}{ds:Option (List Deferred)}(hD:w.heap[D]?=some (.deferred ds))(hr:¬T.rng D)(ds':Option<|List Deferred):M T X h (w.putObj D<|.deferred ds') where
 inj:=m.inj
 lt r hr:=ZY3 (m.lt r hr)<|by simp[World.putObj]
 notX:=m.notX
 obj b:=Mf (MP T w hD ds') _ _ (λt r ht hr'=>World.putObj_heap_other<|λe=>hr ⟨b,t,ht,by rw[hr',<-e]⟩)<|m.obj b
def Bi{fn:Func}{tmps:Array Value}{K:Ending->World->Prop}{n:Nat}{T0:Ty}{w0:World}{v:AV}(hres:∀w',M T X h w'->FrR T X w' fr tmps->Step T0 w0 T w'->∃rv,(results fn tmps).run P w'=.ok rv w'/\K (.returned rv) w'):
 ∀(rs:List Nat)(w:World),rs.Nodup->(∀r∈rs,w0.heap.size<=r/\Wn T w r)->M T X h w->FrR T X w fr tmps->Step T0 w0 T w->
 LeavesInM Fence.wide n P fn tmps K (rs.map<|λr=>{target:=.collected r,args:=#[]}) .returning w:=by
 intro rs;induction rs with
 |nil=>
  intro w _ _ m hf st;obtain⟨rv,h1,h2⟩:=hres w m hf st;exact⟨rv,h1,h2⟩
 |cons r rs ih=>
  intro w hnd hr m hf st;obtain⟨Qs,hlt,hnr,hD⟩:=hr r<|by simp
  refine⟨by simp,.inl ⟨r,_,rfl,run_takeDeferred hD,?_⟩⟩
  have stp:=MP T w hD none;have hoth:∀b,b≠r->(w.putObj r<|.deferred none).heap[b]?=w.heap[b]?:=λb hb=>World.putObj_heap_other hb
  refine ih _ (ZY8.1 hnd).2 ?_ (Bh m hD hnr none) (Me stp hf) ?_
  .intro r' hr';have hne:r'≠r:=λe=>(ZY8.1 hnd).1 (e▸hr')
   obtain⟨q1,q2,q3,q4⟩:=hr r'<|by simp[hr']
   exact⟨q1,by simpa[World.putObj]using q2,q3,(hoth r' hne).trans q4⟩
  .exact⟨st.os,st.tape,st.output,by simpa[World.putObj]using st.size,st.le,λb hb hb'=>(hoth b<|by omega).trans (st.keep b hb hb'),st.rng,st.drawn⟩
def Bj(m:M T X h w){tmps:Array Value}(hf:FrR T X w fr tmps):∀{rs:List ResultVar}{qs:List ResVar}{vs:List AV},YJ P rs qs=true->YD fr h qs=some vs->
 ∃us:List Value,(rs.mapM (λ(x:ResultVar)=>(match x with
  | .tmp t=>pure<|tmps.getD t undef
  | .cell b t=>do loadVar t (<-asAddr (tmps.getD b undef)):Sem Value))).run P w=.ok us w/\Rs T X w vs us:=by
 intro rs;induction rs with
 |nil=>
  intro qs vs hc hv;cases qs with
  |cons _ _=>simp[YJ]at hc
  |nil=>
   simp only[YD,Option.some.injEq]at hv;subst hv;exact⟨[],by simp,rfl⟩
 |cons r rs ih=>
  intro qs vs hc hv;cases qs with
  |nil=>cases r<;>simp[YJ]at hc
  |cons q qs=>
   simp only[YD]at hv;split at hv
   .next v vr h1 h2=>
    simp only[Option.some.injEq]at hv;subst hv;have hone:YJ P rs qs=true/\∃u,((match r with
     | .tmp t=>pure<|tmps.getD t undef
     | .cell b t=>do loadVar t (<-asAddr (tmps.getD b undef)):Sem Value)).run P w=.ok u w/\R T X w v u:=by
     cases r with
     |tmp t=>
      cases q with
      |cell _ _=>simp[YJ]at hc
      |tmp u=>
       simp only[YJ,ZWT,beq_iff_eq]at hc;obtain⟨rfl,hc⟩:=hc;simp only[WX,Option.some.injEq]at h1;subst h1;exact⟨hc,_,by simp,hf t⟩
     |cell b t=>
      cases q with
      |tmp _=>simp[YJ]at hc
      |cell u n=>
       simp only[YJ,ZWT,beq_iff_eq]at hc;obtain⟨⟨rfl,hn⟩,hc⟩:=hc;refine⟨hc,?_⟩;have hb:=hf b;simp only[WX]at h1;split at h1
       .next b' i off g hg=>
        rw[hg]at hb;split at h1
        .next sz es ho=>
         cases hgg:(es.length==g)with
         |false=>rw[hgg]at h1;cases h1
         |true=>
          rw[hgg]at h1;simp only[cond_true]at h1;cases hi:es[i]? with
          |none=>rw[hi]at h1;cases h1
          |some e=>
           rw[hi]at h1;simp only at h1;obtain⟨r,C,B,cs,el,hT,hp,hilt,k1,k2,k3,k4,k5⟩:=JU m ho hb<|by simpa using hgg
           obtain⟨h6,h7⟩:=Kw i k5 hi;rw[<-ZXw]at h7;obtain⟨rv,h8,h9⟩:=G0 hn (Ku off h7) h1;exact⟨rv,by simp only[hp,asAddr,Sem.run_bind,Sem.run_pure,Result.andThen_ok];exact h8,h9⟩
        .cases h1
       .next bw cs hg=>
        rw[hg]at hb;obtain⟨r,o,hp,_,_,_,_,hcs⟩:=hb;obtain⟨rv,h8,h9⟩:=G0 hn hcs h1;exact⟨rv,by simp only[hp,asAddr,Sem.run_bind,Sem.run_pure,Result.andThen_ok];exact h8,h9⟩
       .cases h1
    obtain⟨hc',u,h3,h4⟩:=hone;obtain⟨us,h5,h6⟩:=ih hc' h2;refine⟨u::us,?_,u,us,rfl,h4,h6⟩;rw[List.mapM_cons,Sem.run_bind,h3,Result.andThen_ok,Sem.run_bind,h5,Result.andThen_ok,Sem.run_pure]
   .cases hv
def Bk{fn:Func}(m:M T X h w){tmps:Array Value}(hf:FrR T X w fr tmps){qs:List ResVar}{v:AV}(hc:YJ P fn.results.toList qs=true)(hv:QO fr h qs=some v):
 ∃rv,(results fn tmps).run P w=.ok rv w/\R T X w v rv:=by
 unfold QO at hv;cases hvs:YD fr h qs with
 |none=>rw[hvs]at hv;cases hv
 |some vs=>
  rw[hvs]at hv;obtain⟨us,h1,h2⟩:=Bj m hf hc hvs;have hrun:(results fn tmps).run P w=.ok (if h:us.toArray.size=1 then us.toArray[0]else .tuple us.toArray) w:=by
   unfold results;rw[Sem.run_bind,Array.mapM_eq_mapM_toList,Sem.run_map]
   erw[h1]
   simp only[Result.andThen_ok,Sem.run_pure]
  refine⟨_,hrun,?_⟩;have hlen:=Qr h2;by_cases h1':us.length=1
  .obtain⟨u,rfl⟩:=ZZe.1 h1';obtain⟨x,rfl⟩:=ZZe.1<|hlen.trans h1';simp only[Option.some.injEq]at hv;subst hv;obtain⟨y,yr,h5,h6,h7⟩:=h2;cases h5;simpa using h6
  .have:v=.tup vs:=by
    cases vs with
    |nil=>simpa using hv.symm
    |cons x xs=>
     cases xs with
     |nil=>simp at hlen;omega
     |cons y ys=>simpa using hv.symm
   subst this;rw[dif_neg<|by simpa using h1']
   exact⟨us.toArray,rfl,by simpa using h2⟩
end Go.AM
namespace Go.AM
open Go
variable [Dr]
variable {P:Program} {E:Env} {T:Ty} {X:Xt} {w:World} {h:Hp} {fr:Fr} {a:Act}
def Bl(ok:EnvOk P E){k:Nat}(ih:AllOk P E k){f:Nat}{args:List AV}{v:AV}{h':Hp}(he:Qz E (k+1) f args h=some (v,h'))(rargs:Array Value)(hcr:X.cr=Chk P)(c:Ctx E T X h w)(hr:Rs T X w args rargs.toList):
 YI P ((callFunc f rargs).run P w) w (Yq T X w h' v):=by
 simp only[Qz]at he;cases hs:E.sum f with
 |some s=>
  rw[hs]at he;exact ok.sum f s hs args h v h' he T X w rargs hcr c hr
 |none=>
  rw[hs]at he;obtain⟨h1,h2⟩:=ih.body f args h v h' he T X w rargs hcr c hr;exact .inr<|.inl ⟨f,rargs,h1,h2⟩
def Bm:∀(args:List AV)(i t:Nat),get (QP i args) t=if i<=t then(args[t-i]?).getD .bot else .bot:=by
 intro args;induction args with
 |nil=>intro i t;simp[QP,get]
 |cons v r ih=>
  intro i t;simp only[QP,get];by_cases e:i=t
  .subst e;simp
  .have:(i==t)=false:=by simpa using e
   rw[this,cond_false,ih];by_cases hl:i<=t
   .have h1:t-i=(t-(i+1))+1:=by omega
    rw[if_pos hl,if_pos (by omega),h1,ZXS]
   .rw[if_neg hl,if_neg<|by omega]
def Bn{args:List AV}{rargs:Array Value}(hr:Rs T X w args rargs.toList)(n:Nat):FrR T X w (QP 0 args) (rargs++Array.replicate n undef):=by
 intro t;rw[Bm,if_pos<|ZXb _,Nat.sub_zero];cases ha:args[t]? with
 |none=>trivial
 |some v=>
  obtain⟨rv,h1,h2⟩:=Wp t hr ha;have h1':rargs[t]?=some rv:=by simpa using h1
  have hlt:=(ZXN.1 h1').1;rw[ZXC,ZZc hlt,h1'];exact h2
def Bo(ok:EnvOk P E){k:Nat}(ih:AllOk P E k){f:Nat}{args:List AV}{v:AV}{h':Hp}(he:QX E (k+1) f args h=some (v,h'))(rargs:Array Value)(hcr:X.cr=Chk P)(c:Ctx E T X h w)(hr:Rs T X w args rargs.toList):
 (callFunc f rargs).run P w=.ok (.enter f rargs) w/\Calls P f rargs w λe w'=>∃rv,e=.returned rv/\Yq T X w h' v rv w':=by
 simp only[QX]at he;cases hq:E.fn f with
 |none=>rw[hq]at he;cases he
 |some q=>
  rw[hq]at he;simp only at he;obtain⟨fn,co,h1,h2,h3,h4,h5⟩:=ok.fn f q hq;have hrun:(callFunc f rargs).run P w=.ok (.enter f rargs) w:=by
   unfold callFunc;simp only[Sem.run_bind,run_program,Result.andThen_ok,h1,h2,h3,Option.isNone_some,ZX2,if_false,Sem.run_pure]
  refine⟨hrun,(Rm (ro:=none) (n:=0)).1 ?_⟩;have key:∀e fr' ,Ze E k q.body (QP 0 args) h=some (e,fr',h')->(e=.normal\/e=.ret)->QO fr' h' q.res=some v->CallsIn (Qa none) 0 P f rargs w λe w'=>∃rv,e=.returned rv/\Yq T X w h' v rv w':=by
   intro e fr' hc hee hres;refine callsIn_of_wp_marks h1 h3 (VK _ _) ?_;have st0:St E T X h w (QP 0 args) w.heap.size (rargs++Array.replicate (fn.ntmps-rargs.size) undef).size {tmps:=rargs++Array.replicate (fn.ntmps-rargs.size) undef,defers:=[]}:=
    ⟨c,Bn hr _,rfl,⟨[],rfl,ZYT,by simp⟩,ZX0 _⟩
   refine ih.code q.body (QP 0 args) h e fr' h' hc T X w _ fn.ntmps co w.heap.size _ false none 0 hcr ?_ h4 (λ_=>rfl) st0 _ ?_
   .simp only[Array.size_append,Array.size_replicate];omega
   .intro T' a' w' st s';obtain⟨rs,hds,hnd,hrs⟩:=s'.marks;have:=Bi (P:=P) (fn:=fn) (n:=0) (K:=λe w'=>∃rv,e=.returned rv/\Yq T X w h' v rv w') (T0:=T) (w0:=w) (v:=v)
     (λw2 m2 f2 st2=>by
      obtain⟨rv,q1,q2⟩:=Bk (P:=P) (fn:=fn) m2 f2 h5 hres;exact⟨rv,q1,rv,rfl,T',st2,m2,q2⟩)
     rs w' hnd hrs s'.c.m s'.f st
    rw[<-hds]at this;rcases hee with rfl|rfl<;>exact this
  split at he
  .next fr' h'' hc=>
   simp only[ZXi]at he;obtain⟨v',hv,he⟩:=he;cases he;exact key _ _ hc (.inl rfl) hv
  .next fr' h'' hc=>
   simp only[ZXi]at he;obtain⟨v',hv,he⟩:=he;cases he;exact key _ _ hc (.inr rfl) hv
  .cases he
def Bp{v:AV}{rv:Value}{X2:Xt}(h2:∀r,¬T.rng r->¬X r->¬X2 r)(hc:clean v=true)(hr:R T X w v rv):R Ty.empty X2 w v rv:=Ww h2 v rv (KK v hc) hr
def Bq(ok:EnvOk P E){k:Nat}(ih:AllOk P E k){p:Bool}{f:Nat}{args:List AV}{v:AV}{h':Hp}(he:Qm E (k+1) p f args h=some (v,h'))(rargs:Array Value)(hcr:X.cr=Chk P)(c:Ctx E T X h w)(hr:Rs T X w args rargs.toList):
 YI P ((callFunc f rargs).run P w) w (Yq T X w h' v):=by
 cases p with
 |false=>
  rw[Qm]at he;exact ih.fn f args h v h' he T X w rargs hcr c hr
 |true=>
  simp only[Qm]at he;split at he
  .next as has=>
   split at he
   .next u h2 hrun=>
    simp only[ZXi]at he;obtain⟨v',hv,he⟩:=he;cases he
    let X2:Xt:=⟨λr=>X r\/T.rng r,X.cr⟩
    have hX2:∀r,¬T.rng r->¬X r->¬X2 r:=λr q1 q2 hx=>hx.elim q2 q1
    have m2:M Ty.empty X2 [] w:=by
     refine⟨λb c' b' c2 r hb=>(by cases hb),λr hr=>(XX r hr).elim,λr hr=>(XX r hr).elim,λb=>?_⟩
     simp only[List.getElem?_nil];trivial
    have c2:Ctx E Ty.empty X2 [] w:=
     ⟨m2,λg=>⟨Bp hX2 (ok.gl g) (c.gl g).1,(c.gl g).2⟩,λr hr=>hr.elim (c.hX r)<|c.m.lt r⟩
    have hr2:Rs Ty.empty X2 w as rargs.toList:=by
     unfold Ql at has;cases hcl:Z4 args with
     |true=>
      rw[hcl]at has;simp only[cond_true,Option.some.injEq]at has;subst has;exact XY hX2 args _ (XW args hcl) hr
     |false=>
      rw[hcl]at has;simp only[cond_false]at has;exact((MK c.m hX2 (λhb=>by cases hb) 40).2 args as has).2.1 _ hr
    refine(ih.fn f as [] u h2 hrun Ty.empty X2 w rargs hcr c2 hr2).mono ?_;rintro rv w' ⟨T',st,m',hu⟩;have hkeep:∀b,b<w.heap.size->w'.heap[b]?=w.heap[b]?:=λb hb=>st.keep b hb<|XX b
    have st':Step T w T w':=⟨st.os,st.tape,st.output,st.size,λb c hb=>⟨c,hb,.refl c⟩,λb hb _=>hkeep b hb,λb hb=>.inl hb,st.drawn⟩
    have hT'ge:∀r,T'.rng r->w.heap.size<=r:=λr hr=>(st.rng r hr).resolve_left (XX r)
    refine⟨T,st',Xr c.m st'<|λr hr=>hkeep r<|c.m.lt r hr,?_⟩
    have hback:∀r,¬X2 r->¬T.rng r/\¬X r:=λr hx=>⟨λhr=>hx<|.inr hr,λhr=>hx<|.inl hr⟩
    unfold YE at hv;cases hcl:clean u with
    |true=>
     rw[hcl]at hv;simp only[cond_true,Option.some.injEq]at hv;subst hv;exact KL (λr _ hx=>hback r hx) u rv hcl hu
    |false=>
     rw[hcl]at hv;simp only[cond_false]at hv;obtain⟨q1,_,_,q4⟩:=(MK (X2:=X2) (bw:=false) m' (λr _ hx=>hx)
      (λ_ r hr hx=>by have:=hT'ge r hr;have:=c2.hX r hx;omega) 40).1 u v hv
     have hcv:clean v=true:=by simpa[okc,Z4]using q1
     exact KL (λr _ hx=>hback r hx) v rv hcv<|q4 rv hu
   .cases he
  .cases he
def Br{k:Nat}(ih:AllOk P E k){p:Bool}{f:AV}{args:List AV}{v:AV}{h':Hp}(he:QQ E (k+1) p f args h=some (v,h'))(fv:Value)(rargs:Array Value)(hcr:X.cr=Chk P)(c:Ctx E T X h w)(hf:R T X w f fv)(hr:Rs T X w args rargs.toList):
 YI P ((do let d <-Deferred.ofValue fv rargs;invoke d.target d.args:Sem Next).run P w) w (Yq T X w h' v):=by
 cases f with
 |clo fn first cap=>
  cases fn with
  |func g=>
   simp only[QQ]at he;obtain⟨f1,c1,rfl,h1,h2⟩:=hf;have hrun:(do let d <-Deferred.ofValue (.func (.func g) f1 c1) rargs;invoke d.target d.args:Sem Next).run P w=(callFunc g<|(f1++rargs)++c1).run P w:=by
    simp only[Deferred.ofValue,Sem.run_bind,Sem.run_pure,Result.andThen_ok,invoke]
   rw[hrun];refine ih.call p g _ h v h' he T X w _ hcr c ?_;have:=QR (QR h1 hr) h2;simpa using this
  |_=>simp[QQ]at he
 |yld b=>
  simp only[QQ]at he;cases p with
  |true=>simp at he
  |false=>
   simp only[cond_false]at he;obtain⟨l,hT,rfl⟩:=hf;have hrun:(do let d <-Deferred.ofValue (.func (.yield l) #[] #[]) rargs;invoke d.target d.args:Sem Next).run P w=(Instr.yield l rargs).run P w:=by
    simp only[Deferred.ofValue,Sem.run_bind,Sem.run_pure,Result.andThen_ok,invoke];simp
   rw[hrun];exact ih.yield b args h v h' he T X w rargs l hcr c hr hT
 |_=>simp[QQ]at he
end Go.AM
namespace Go.AM
open Go
variable {E:Env} {fr:Fr} {h h':Hp}
def MQ{x:AV}(hh:∀b∈Zs x,h'[b]?=h[b]?):Q2 h' x=Q2 h x:=by
 cases x<;>first|rfl|skip
 case sl b g off len ex=>simp only[Q2,hh b<|by simp[Zs]]
def MR{sz:Nat}{x:AV}(hh:∀b∈Zs x,h'[b]?=h[b]?):Qq h' sz x=Qq h sz x:=by
 cases x<;>first|rfl|skip
 case sl b g off len ex=>simp only[Qq,hh b<|by simp[Zs]]
def Bs{x:AV}(hh:∀b∈Zs x,h'[b]?=h[b]?):X1 h' x=X1 h x:=by
 cases x<;>first|rfl|skip
 case sl b g off len ex=>simp only[X1,hh b<|by simp[Zs]]
 case mp b=>simp only[X1,hh b<|by simp[Zs]]
def Bu{aid sz bytes:Nat}{fz:Bool}{s x:AV}(hh:∀b∈Zs s++Zs x,h'[b]?=h[b]?):Qt h' aid fz sz bytes s x=Qt h aid fz sz bytes s x:=by
 have h1:∀b∈Zs s,h'[b]?=h[b]?:=λb hb=>hh b<|by simp[hb]
 have h2:∀b∈Zs x,h'[b]?=h[b]?:=λb hb=>hh b<|by simp[hb]
 unfold Qt;rw[MQ h1,MQ h2,MR h1,MR h2];cases s<;>first|rfl|skip
 case isl bw ex z es=>cases ex<;>rfl
 case sl b g off len ex=>
  have:=h1 b<|by simp[Zs]
  cases ex
  .simp only[this]
  .rfl
def Bv{aid:Nat}{op:AOp}(hh:∀b∈opT E fr op,h'[b]?=h[b]?):Z8 E fr h' aid op=Z8 E fr h aid op:=by
 cases op<;>try rfl
 case load n x=>
  simp only[opT]at hh;simp only[Z8];generalize ev E fr x=y at hh⊢;cases y<;>first|rfl|(have hb:=hh _<|ZXB.2 rfl;simp only[hb])
 case store n x y=>
  simp only[opT]at hh;simp only[Z8];generalize ev E fr x=y at hh⊢;cases y<;>first|rfl|(have hb:=hh _<|ZXB.2 rfl;simp only[hb])
 case isn neg x=>
  simp only[opT]at hh;simp only[Z8];generalize ev E fr x=y at hh⊢;cases y<;>first|rfl|(have hb:=hh _<|ZXB.2 rfl;simp only[hb])
 case nilck x=>
  simp only[opT]at hh;simp only[Z8];generalize ev E fr x=y at hh⊢;cases y<;>first|rfl|(have hb:=hh _<|ZXB.2 rfl;simp only[hb])|skip
  case clo fn first cap=>cases fn<;>rfl
 case ldr n c x=>
  simp only[opT]at hh;simp only[Z8];generalize ev E fr x=y at hh⊢;cases y<;>first|rfl|skip
  case ptr b i off g=>
   have hb:=hh b<|by simp
   have hb1:=hh (b+1)<|by simp
   simp only[hb,ZvH,hb1]
 case rel x=>
  simp only[opT]at hh;simp only[Z8];generalize ev E fr x=y at hh⊢;cases y<;>first|rfl|(have hb:=hh _<|ZXB.2 rfl;simp only[hb])
 case fadr n x=>
  simp only[opT]at hh;simp only[Z8];generalize ev E fr x=y at hh⊢;cases y<;>first|rfl|(have hb:=hh _<|ZXB.2 rfl;simp only[hb])
 case nxt x=>
  simp only[opT]at hh;simp only[Z8];generalize ev E fr x=y at hh⊢;cases y<;>first|rfl|(have hb:=hh _<|ZXB.2 rfl;simp only[hb])
 case len k x=>
  simp only[opT]at hh;simp only[Z8,Bs hh]
 case iadr sz x i=>
  simp only[opT]at hh;simp only[Z8];generalize ev E fr x=y at hh⊢;generalize ev E fr i=z;cases y<;>cases z<;>first|rfl|(have hb:=hh _<|ZXB.2 rfl;simp only[hb])
 case aadr sz n x i=>
  simp only[opT]at hh;simp only[Z8];generalize ev E fr x=y at hh⊢;generalize ev E fr i=z;cases y<;>cases z<;>first|rfl|(have hb:=hh _<|ZXB.2 rfl;simp only[hb])
 case slc sz x lo hi mx=>
  simp only[opT]at hh;simp only[Z8];generalize ev E fr x=y at hh⊢;cases y<;>first|rfl|(have hb:=hh _<|ZXB.2 rfl;simp only[hb])
 case ins ag ks m k v=>
  simp only[opT]at hh;simp only[Z8];generalize ev E fr m=y at hh⊢;cases y<;>first|rfl|(have hb:=hh _<|ZXB.2 rfl;simp only[hb])
 case mupd ag ks m k v=>
  simp only[opT]at hh;simp only[Z8];generalize ev E fr m=y at hh⊢;cases y<;>first|rfl|(have hb:=hh _<|ZXB.2 rfl;simp only[hb])
 case lkp ag ks ok z m k=>
  simp only[opT]at hh;simp only[Z8];generalize ev E fr m=y at hh⊢;cases y<;>first|rfl|(have hb:=hh _<|ZXB.2 rfl;simp only[hb])
 case app fz sz bytes s x=>
  simp only[opT]at hh;simp only[Z8];exact Bu hh
 case apr sz bytes s x=>
  simp only[opT]at hh;simp only[Z8];rw[Bu hh];cases hap:Qt h aid false sz bytes (ev E fr s) (ev E fr x)with
  |none=>rfl
  |some r=>
   obtain⟨v,rs,wr⟩:=r;dsimp only;cases wr with
   |some p=>cases v<;>first|rfl|(obtain⟨b',o⟩:=p;cases o<;>rfl)
   |none=>
    have hv:=Zzc hap;cases v<;>first|rfl|skip
    case sl b g off len ex=>
     have:=hh b<|ZYm _<|by rw[<-hv];simp[Zs]
     simp only[ZvE,this]
def MS{x:AV}{es:List AV}(he:Q2 h x=some es):∀b∈Zs x,∃o,h[b]?=some o:=by
 intro b hb;cases x<;>simp[Zs]at hb<;>simp only[Q2,reduceCtorEq]at he
 case sl b' g off len ex=>
  subst hb;cases ho:h[b]? with
  |none=>rw[ho]at he;cases he
  |some o=>exact⟨o,rfl⟩
def Bw{aid:Nat}{op:AOp}{r:Zt}(he:Z8 E fr h aid op=some r):∀b∈opT E fr op,∃o,h[b]?=some o:=by
 intro b hb;cases ho:h[b]? with
 |some o=>exact⟨o,rfl⟩
 |none=>
  exfalso;cases op<;>simp only[opT,ZYf]at hb<;>simp only[Z8]at he
  case load n x=>
   generalize ev E fr x=y at hb he;cases y<;>simp[Zs]at hb<;>subst hb<;>simp[ho]at he
  case store n x y=>
   generalize ev E fr x=y at hb he;cases y<;>simp[Zs]at hb<;>subst hb<;>simp[ho]at he
  case isn neg x=>
   generalize ev E fr x=y at hb he;cases y<;>simp[Zs]at hb<;>subst hb<;>simp[ho]at he
  case nilck x=>
   generalize ev E fr x=y at hb he;cases y<;>simp[Zs]at hb<;>subst hb<;>simp[ho]at he
  case ldr n c x=>
   generalize ev E fr x=y at hb he;cases y<;>first|(simp at hb;done)|skip
   case ptr b' i off g=>
    simp only[ZXv,ZYf,or_false]at hb;rcases hb with rfl|rfl
    .simp[ho]at he
    .dsimp only at he
     repeat' (split at he)
     all_goals first
      |(cases he;done)
      |skip
     all_goals try simp only[cond]at he
     all_goals (repeat' (split at he))
     all_goals first
      |(cases he;done)
      |(unfold ZvH at he
        repeat' (split at he)
        all_goals try simp only[cond]at he
        all_goals (repeat' (split at he))
        all_goals first
         |(cases he;done)
         |(rename_i hh;rw[ho]at hh;cases hh)
         |(simp_all))
  case rel x=>
   generalize ev E fr x=y at hb he;cases y<;>simp[Zs]at hb<;>subst hb<;>simp[ho,Zs]at he
  case fadr n x=>
   generalize ev E fr x=y at hb he;cases y<;>simp[Zs]at hb<;>subst hb<;>simp[ho]at he
  case nxt x=>
   generalize ev E fr x=y at hb he;cases y<;>simp[Zs]at hb<;>subst hb<;>simp[ho]at he
  case len k x=>
   generalize ev E fr x=y at hb he;cases y<;>simp[Zs]at hb<;>subst hb<;>cases hk:VC k _<;>rw[hk]at he<;>simp[X1,ho]at he
  case iadr sz x i=>
   generalize ev E fr x=y at hb he;generalize ev E fr i=z at he;cases y<;>simp[Zs]at hb<;>subst hb<;>cases z<;>simp[ho]at he
  case aadr sz n x i=>
   generalize ev E fr x=y at hb he;generalize ev E fr i=z at he;cases y<;>simp[Zs]at hb<;>subst hb<;>cases z<;>simp[ho]at he
  case slc sz x lo hi mx=>
   generalize ev E fr x=y at hb he;cases y<;>simp[Zs]at hb<;>subst hb<;>simp only[ho]at he<;>first|(cases he;done)|(split at he<;>simp at he)
  case ins ag ks m k v=>
   generalize ev E fr m=y at hb he;cases y<;>simp[Zs]at hb<;>subst hb<;>simp[ho]at he
  case mupd ag ks m k v=>
   generalize ev E fr m=y at hb he;cases y<;>simp[Zs]at hb<;>subst hb<;>simp[ho]at he
  case lkp ag ks ok z m k=>
   generalize ev E fr m=y at hb he;cases y<;>simp[Zs]at hb<;>subst hb<;>simp[ho]at he
  case apr sz bytes s x=>
   cases hap:Qt h aid false sz bytes (ev E fr s) (ev E fr x)with
   |none=>rw[hap]at he;cases he
   |some r=>
    unfold Qt at hap;split at hap
    .next es ys h1 h2=>
     rcases ZXF.1 hb with hb|hb
     .obtain⟨o,h3⟩:=MS h1 b hb;rw[ho]at h3;cases h3
     .obtain⟨o,h3⟩:=MS h2 b hb;rw[ho]at h3;cases h3
    .cases hap
  case app fz sz bytes s x=>
   unfold Qt at he;split at he
   .next es ys h1 h2=>
    rcases ZXF.1 hb with hb|hb
    .obtain⟨o,h3⟩:=MS h1 b hb;rw[ho]at h3;cases h3
    .obtain⟨o,h3⟩:=MS h2 b hb;rw[ho]at h3;cases h3
   .cases he
def Le(h h':Hp):Prop:=∀(b:Nat)(o:AObj),h[b]?=some o->h'[b]?=some o
variable {bw:Bool}
mutual
def MT(hl:Le h h'){bw:Bool}:(n:Nat)->(v v':AV)->freeze bw h n v=some v'->freeze bw h' n v=some v'
 |0,v,v',he=>by simp[freeze]at he
 |n+1,v,v',he=>by
  simp only[freeze]at he⊢;cases hc:clean v with
  |true=>rw[hc]at he;exact he
  |false=>
   rw[hc]at he;simp only[cond_false]at he⊢;cases v<;>(first|(simp only[reduceCtorEq]at he;done)|dsimp only at he⊢ |skip)
   case agg cs=>
    simp only[ZXi]at he⊢;obtain⟨a,h1,h2⟩:=he;exact⟨a,Wy hl n cs a h1,h2⟩
   case tup cs=>
    simp only[ZXi]at he⊢;obtain⟨a,h1,h2⟩:=he;exact⟨a,Wy hl n cs a h1,h2⟩
   case ifc t x=>
    simp only[ZXi]at he⊢;obtain⟨a,h1,h2⟩:=he;exact⟨a,MT hl n x a h1,h2⟩
   case clo fn first cap=>
    split at he
    .next f c h1 h2=>rw[Wy hl n first f h1,Wy hl n cap c h2];exact he
    .cases he
   case iptr b cs=>cases b<;>exact he
   case isl b ex sz es=>cases b<;>exact he
   case imap b ks vs=>cases b<;>exact he
   case ptr b i off g=>
    cases hb:h[b]? with
    |none=>rw[hb]at he;cases he
    |some o=>
     rw[hb]at he;rw[hl b o hb];cases o<;>(first|(simp only[reduceCtorEq]at he;done)|dsimp only at he⊢ |skip)
     case row sz es=>
      cases hg:(es.length==g)with
      |false=>rw[hg]at he;cases he
      |true=>
       rw[hg]at he;simp only[cond_true]at he⊢;cases hi:es[i]? with
       |none=>rw[hi]at he;cases he
       |some e=>
        rw[hi]at he;simp only[ZXi]at he⊢;obtain⟨a,h1,h2⟩:=he;exact⟨a,Wy hl n _ a h1,h2⟩
   case sl b g off len ex=>
    cases hb:h[b]? with
    |none=>rw[hb]at he;cases he
    |some o=>
     rw[hb]at he;rw[hl b o hb];cases o<;>(first|(simp only[reduceCtorEq]at he;done)|dsimp only at he⊢ |skip)
     case row sz es=>
      cases hg:(es.length==g)with
      |false=>rw[hg]at he;cases he
      |true=>
       rw[hg]at he;simp only[cond_true,ZXi]at he⊢;obtain⟨a,h1,h2⟩:=he;exact⟨a,Wy hl n _ a h1,h2⟩
   case mp b=>
    cases hb:h[b]? with
    |none=>rw[hb]at he;cases he
    |some o=>
     rw[hb]at he;rw[hl b o hb];cases o<;>(first|(simp only[reduceCtorEq]at he;done)|dsimp only at he⊢ |skip)
     case map ks vs=>
      cases hg:Z4 ks with
      |false=>rw[hg]at he;cases he
      |true=>
       rw[hg]at he;simp only[cond_true,ZXi]at he⊢;obtain⟨a,h1,h2⟩:=he;exact⟨a,Wy hl n _ a h1,h2⟩
def Wy(hl:Le h h'){bw:Bool}:(n:Nat)->(v v':List AV)->ZC bw h n v=some v'->ZC bw h' n v=some v'
 |0,v,v',he=>by cases v<;>simp[ZC]at he
 |n+1,[],v',he=>by simpa[ZC]using he
 |n+1,v::r,v',he=>by
  simp only[ZC]at he⊢;cases hc:Z4 (v::r)with
  |true=>rw[hc]at he;exact he
  |false=>
   rw[hc]at he;simp only[cond_false]at he⊢;split at he
   .next a b h1 h2=>rw[MT hl n v a h1,Wy hl n r b h2];exact he
   .cases he
end
mutual
def MU{bw:Bool}:(n:Nat)->(v:AV)->Zy v=true->freeze bw h n v=freeze bw h' n v
 |0,v,_=>by simp[freeze]
 |n+1,v,hn=>by
  simp only[freeze];cases hc:clean v with
  |true=>rfl
  |false=>
   simp only[cond_false];cases v<;>first|rfl|(simp[Zy]at hn;done)|skip
   case iptr b _=>cases b<;>rfl
   case isl b _ _ _=>cases b<;>rfl
   case imap b _ _=>cases b<;>rfl
   case agg cs=>simp only[KP n cs<|by simpa[Zy]using hn]
   case tup cs=>simp only[KP n cs<|by simpa[Zy]using hn]
   case ifc t x=>simp only[MU n x<|by simpa[Zy]using hn]
   case clo fn first cap=>
    simp only[Zy,ZWT]at hn;simp only[KP n first hn.1,KP n cap hn.2]
def KP{bw:Bool}:(n:Nat)->(v:List AV)->Zi v=true->ZC bw h n v=ZC bw h' n v
 |0,v,_=>by cases v<;>simp[ZC]
 |n+1,[],_=>by simp[ZC]
 |n+1,v::r,hn=>by
  simp only[Zi,ZWT]at hn;simp only[ZC,MU n v hn.1,KP n r hn.2]
end
end Go.AM
namespace Go.AM
open Go
variable [Dr]
variable {P:Program} {E:Env} {T:Ty} {X:Xt} {w:World} {h:Hp} {fr:Fr} {a:Act}
def Bx{s:Sem Next}{t ty:TypeId}{k:Nat}{x:AV}{v:Value}{res:Zt}(m:M T X h w)(hk:(match k with|0=>V3 P t|1=>(isSlice P t).isSome|2=>(isMap P t).isSome|_=>false)=true)(hx:R T X w x v)
 (hs:∀rv,(Builtin.len_ #[t] ty #[v]).run P w=.ok rv w->s.run P w=.ok (.value rv) w)
 (he:(bif VC k x then X1 h x else none)=some res):Sim P T X h w s res:=by
 cases hl:VC k x with
 |false=>rw[hl]at he;cases he
 |true=>
  rw[hl]at he;simp only[cond_true]at he;have hst:V3 P t=true->P.underlying t=some .string:=Gd;have hsl:(isSlice P t).isSome=true->∃e,P.underlying t=some (.slice e):=by
   intro hh;obtain⟨e,he⟩:=ZYB.1 hh;exact⟨e,KJ he⟩
  have hmp:(isMap P t).isSome=true->∃k e,P.underlying t=some (.map k e):=by
   intro hh;obtain⟨⟨k,e⟩,he⟩:=ZYB.1 hh;exact⟨k,e,Ge he⟩
  refine CN (ty:=ty) m ?_ ?_ hx hs he
  .rcases k with _|_|_|k
   .exact .inl<|hst hk
   .exact .inr<|.inl<|hsl hk
   .exact .inr<|.inr<|hmp hk
   .cases hk
  .rcases k with _|_|_|k<;>cases x<;>first|trivial|(simp[VC]at hl;done)|exact hst hk|exact hsl hk|exact hmp hk|cases hk
def MV{sz aid:Nat}{x:AV}{res:Zt}(he:(bif fits sz x then(bif Z4 x.cells then Zl (some<|.iptr false x.cells)else bif Zi x.cells then Zl (some<|.iptr true x.cells)else some (.ptr aid 0 0 1,[],some (aid,.row sz [x])))else none)=some res):
 fits sz x=true/\((∃bw,okc bw x.cells=true/\res=(.iptr bw x.cells,[],none))\/res=(.ptr aid 0 0 1,[],some (aid,.row sz [x]))):=by
 cases hf:fits sz x with
 |false=>rw[hf]at he;cases he
 |true=>
  rw[hf,cond_true]at he;cases hc:Z4 x.cells with
  |true=>
   rw[hc,cond_true]at he;obtain⟨u,hu,rfl⟩:=ZY he;cases hu;exact⟨rfl,.inl ⟨false,hc,rfl⟩⟩
  |false=>
   rw[hc,cond_false]at he;cases hn:Zi x.cells with
   |true=>
    rw[hn,cond_true]at he;obtain⟨u,hu,rfl⟩:=ZY he;cases hu;exact⟨rfl,.inl ⟨true,hn,rfl⟩⟩
   |false=>
    rw[hn]at he;simp only[cond_false,Option.some.injEq]at he;exact⟨rfl,.inr he.symm⟩
def MW{s:Sem Next}{mx:Bool}{x y:AV}{v u:Value}{res:Zt}(m:M T X h w)(hx:R T X w x v)(hy:R T X w y u)
 (hs:∀k p j q,v=.int k p->u=.int j q->s.run P w=.ok (.value<|.int k<|bif mx then(if q>p then q else p)else(if q<p then q else p)) w)
 (he:(match(generalizing:=false) x,y with| .int k a,.int _ b=>Zl (some<|AV.int k<|bif mx then(if b>a then b else a)else(if b<a then b else a))|_,_=>none)=some res):Sim P T X h w s res:=by
 cases x<;>(first|(simp only[reduceCtorEq]at he;done)|skip)
 cases y<;>(first|(simp only[reduceCtorEq]at he;done)|skip)
 next k a j b=>
 obtain⟨z,hz,rfl⟩:=ZY he;cases hz;exact Sim.pure m (hs k a j b hx hy) rfl
def MX{es:List AV}(hc:Z4 es=true):∀(n k:Nat),Z4 ((es.drop n).take k)=true:=by
 induction es with
 |nil=>intro n k;simp[Z4]
 |cons e es ih=>
  intro n k;simp only[Z4,ZWT]at hc;cases n with
  |zero=>
   cases k with
   |zero=>rfl
   |succ k=>
    have:=ih hc.2 0 k;rw[ZXO]at this;simp only[ZXO,ZYO,Z4,ZWT];exact⟨hc.1,this⟩
  |succ n=>simpa using ih hc.2 n k
def MY{s:Sem Next}{x:AV}{v:Value}{res:Zt}(m:M T X h w)(hx:R T X w x v)(hs:s.run P w=.ok (.value v) w)
 (he:(match(generalizing:=false) x with
 | .sl b g off len ex=>
  match h[b]? with
  |some (.row sz es)=>bif es.length==g&&Z4 es then some (AV.isl false ex sz<|(es.drop off).take len,[b],some (b,AObj.gone))else none
  |_=>none
 |v=>bif (Zs v).isEmpty then Zl (some v)else none)=some res):Sim P T X h w s res:=by
 have plain:∀y:AV,y=x->(bif (Zs y).isEmpty then Zl (some y)else none)=some res->Sim P T X h w s res:=by
  rintro y rfl he;cases ht:(Zs y).isEmpty with
  |false=>rw[ht]at he;cases he
  |true=>
   rw[ht]at he;obtain⟨u,hu,rfl⟩:=ZY he;cases hu;exact Sim.pure m hs hx
 cases x<;>first|exact plain _ rfl he|skip
 case sl b g off len ex=>
  dsimp only at he;split at he
  .next sz es hb=>
   cases hc:(es.length==g&&Z4 es)with
   |false=>rw[hc]at he;cases he
   |true=>
    rw[hc]at he;simp only[cond_true,Option.some.injEq]at he;subst he;simp only[ZWT,beq_iff_eq]at hc;obtain⟨hg,hcl⟩:=hc;obtain⟨r,C,B,hT,k0,hC,hrow⟩:=XV m hb;obtain⟨_,sz2,g2,r2,C2,B2,hT2,k1,k2,k3⟩:=hx;rw[hT]at hT2;cases hT2;obtain⟨cap,k4,k5,k6,k7⟩:=k3 hg.symm;have hblt:b<h.length:=(ZXg.1 hb).1;have hrngsub:∀q,(upd T b<|.row sz (es.length+1) none 0 0).rng q->∃b' c',b'≠b/\T b'=some c'/\c'.real=some q:=by
     rintro q ⟨b',c',h1,h2⟩;by_cases e:b'=b
     .subst e;rw[upd_same]at h1;cases h1;cases h2
     .rw[upd_ne _ _ e]at h1;exact⟨b',c',e,h1,h2⟩
    have st:Step T w (upd T b<|.row sz (es.length+1) none 0 0) w:=by
     refine⟨rfl,rfl,rfl,ZX0 _,λy c hy=>?_,λ_ _ _=>rfl,λq hq=>?_,λ_=>ZX0 _⟩
     .by_cases e:y=b
      .subst e;rw[hT]at hy;cases hy;exact⟨_,upd_same _ _ _,rfl,.inr<|by omega⟩
      .exact⟨c,by rw[upd_ne _ _ e];exact hy,.refl _⟩
     .obtain⟨b',c',_,h1,h2⟩:=hrngsub q hq;exact .inl ⟨b',c',h1,h2⟩
    have m':=WZ m b .gone (.row sz (es.length+1) none 0 0) (ZXU hblt) st (λ_ _ _ _ _ _=>rfl) (λr hr=>by cases hr) trivial
    refine⟨_,w,v,.inl hs,st,m',?_⟩;have hl:((es.drop off).take len).length=len:=by simp;omega
    rcases k7 with⟨r',rfl,rfl⟩|⟨rfl,p,rfl,k8⟩
    .obtain⟨cells,el,j1,j2,j3⟩:=hrow;have hrng:T.rng r':=⟨b,_,hT,rfl⟩;refine⟨_,_,_,rfl,hl.symm,k4,k6,MX hcl _ _,.inr ⟨r',(B+off)*sz,rfl,?_,λ_=>m.notX r' hrng,m.lt r' hrng,?_⟩⟩
     .intro hq;obtain⟨b',c',hne,h1,h2⟩:=hrngsub r' hq;exact hne<|m.inj b' c' b _ r' h1 hT h2 rfl
     .have:=UV len<|UU off j3;rw[ZXw];exact HS st _ _ rfl _ _ this
    .have hl0:len=0:=by omega
     refine⟨_,_,_,rfl,by omega,ZX0 _,λ_=>rfl,MX hcl _ _,.inl ?_⟩
     exact ZYz.1<|by omega
  .cases he
def Zze{s:Sem Next}{r res:Zt}(hs:Sim P T X h w s r)(hb:∀b o,r.2.2=some (b,o)->b<=h.length)(he:ZvE h r=some res):Sim P T X h w s res:=by
 obtain⟨v,rs,wr⟩:=r;obtain⟨T0,w0,rv,hrun,st0,m0,hv0⟩:=hs;have fin:∀(b g off len sz:Nat)(ex:Bool)(es:List AV),v=.sl b g off len ex->(ZH h wr)[b]?=some (.row sz es)->(es.length==g&&Z4 es)=true->
  setH (ZH h wr) b .gone=setH h b .gone->Sim P T X h w s (.isl false ex sz<|(es.drop off).take len,rs,some (b,.gone)):=by
  rintro b g off len sz ex es rfl hrow hc hset;have hrel:Sim P T0 X (ZH h wr) w0 (Pure.pure (Next.value rv):Sem Next) (AV.isl false ex sz<|(es.drop off).take len,[b],some (b,AObj.gone)):=by
   refine MY m0 hv0 (Sem.run_pure ..) ?_;dsimp only;rw[hrow];dsimp only;rw[hc];rfl
  obtain⟨T1,w1,rv1,hrun1,st1,m1,hv1⟩:=hrel;have hw:w1=w0/\rv1=rv:=by
   rcases hrun1 with hr|⟨hr,_⟩
   .rw[Sem.run_pure]at hr;cases hr;exact⟨rfl,rfl⟩
   .rw[Sem.run_pure]at hr;cases hr
  obtain⟨rfl,rfl⟩:=hw;have m1':M T1 X (setH (ZH h wr) b .gone) w1:=m1;rw[hset]at m1';exact⟨T1,w1,_,hrun,st0.trans st1,m1',hv1⟩
 unfold ZvE at he;split at he
 .next b g off len ex rs' b' sz es heq=>
  simp only[Prod.mk.injEq]at heq;obtain⟨rfl,rfl,rfl⟩:=heq;cases hbb:(b'==b&&(es.length==g&&Z4 es))with
  |false=>rw[hbb]at he;cases he
  |true=>
   rw[hbb]at he;simp only[cond_true,Option.some.injEq]at he;subst he;simp only[ZWT]at hbb;have hbe:b'=b:=by simpa using hbb.1
   subst hbe;obtain⟨k1,k2⟩:=Zzb (.row sz es) .gone<|hb _ _ rfl;exact fin _ _ _ _ _ _ es rfl k2 (by simpa using hbb.2) k1
 .next b g off len ex rs' heq=>
  simp only[Prod.mk.injEq]at heq;obtain⟨rfl,rfl,rfl⟩:=heq;cases hb2:h[b]? with
  |none=>rw[hb2]at he;cases he
  |some o=>
   rw[hb2]at he;cases o<;>simp only[reduceCtorEq]at he
   case row sz es=>
    cases hc:(es.length==g&&Z4 es)with
    |false=>rw[hc]at he;cases he
    |true=>
     rw[hc]at he;simp only[cond_true,Option.some.injEq]at he;subst he;exact fin _ _ _ _ _ _ es rfl hb2 hc rfl
 .next bw ex sz es rs' heq=>
  simp only[Prod.mk.injEq]at heq;obtain⟨rfl,rfl,rfl⟩:=heq;simp only[Option.some.injEq]at he;subst he;exact⟨T0,w0,rv,hrun,st0,m0,hv0⟩
 .cases he
def ZxQ:∀{cs:List AV}{vs:List Value}{o:Nat}{x:AV}{v:Value},Rs T X w cs vs->vs[o]?=some v->R T X w x v->Rs T X w (cs.set o x) vs
 |[],vs,o,x,v,h,_,_=>h
 |c::cs,vs,0,x,v,h,hv,hx=>by
  obtain⟨u,us,rfl,h1,h2⟩:=h;simp only[ZXy,Option.some.injEq]at hv;subst hv;exact⟨_,_,rfl,hx,h2⟩
 |c::cs,vs,o+1,x,v,h,hv,hx=>by
  obtain⟨u,us,rfl,h1,h2⟩:=h;exact⟨_,_,rfl,h1,ZxQ h2 (by simpa using hv) hx⟩
def Zzf{s:Sem Next}{t:TypeId}{n c:Nat}{x:AV}{v:Value}{res:Zt}(m:M T X h w)(hn:Xv P t (some n)=true)(hx:R T X w x v)
 (hs:∀rv,(Instr.loadAt t v).run P w=.ok rv w->s.run P w=.ok (.value rv) w)
 (he:(match(generalizing:=false) x with
  | .ptr b i off g=>
   match h[b]? with
   |some (.row _ es)=>
    bif es.length==g then
     match es[i]? with
     |some e=>
      match takeC (some n) (e.cells.drop off)with
      |some u=>ZvH h b c u
      |none=>none
     |none=>none
    else none
   |_=>none
  |_=>none)=some res):Sim P T X h w s res:=by
 cases x<;>simp only[reduceCtorEq]at he
 case ptr b i off g=>
  cases hb:h[b]? with
  |none=>rw[hb]at he;cases he
  |some o=>
   rw[hb]at he;cases o<;>simp only[reduceCtorEq]at he
   case row sz es=>
    cases hg:(es.length==g)with
    |false=>rw[hg]at he;cases he
    |true=>
     rw[hg]at he;simp only[cond_true]at he;cases hi:es[i]? with
     |none=>rw[hi]at he;cases he
     |some e=>
      rw[hi]at he;dsimp only at he;cases hu:takeC (some n) (e.cells.drop off)with
      |none=>rw[hu]at he;cases he
      |some u=>
       rw[hu]at he;dsimp only at he;have hld:Sim P T X h w s (u,[b],none):=by
        refine Cv (n:=some n) m hn hx hs ?_;dsimp only;rw[hb];dsimp only;rw[hg,hi];simp only[cond_true];rw[hu];rfl
       obtain⟨T0,w0,rv,hrun,st0,m0,hv0⟩:=hld;have m0':M T0 X h w0:=m0;cases u<;>simp only[ZvH,reduceCtorEq]at he
       case agg cs=>
        cases hcs:cs[c]? with
        |none=>rw[hcs]at he;cases he
        |some q=>
         rw[hcs]at he;cases q<;>simp only[reduceCtorEq]at he
         case sl b2 g2 off2 len ex=>
          obtain⟨vs,rfl,hvs⟩:=hv0;obtain⟨vc,hvc,hR⟩:=Wp c hvs hcs;cases hbb:(b2==b+1)with
          |false=>rw[hbb]at he;cases he
          |true=>
          rw[hbb]at he;simp only[cond_true]at he;have hbe:b2=b+1:=by simpa using hbb
          subst hbe;cases hb2:h[b+1]? with
          |none=>rw[hb2]at he;cases he
          |some o2=>
           rw[hb2]at he;cases o2<;>simp only[reduceCtorEq]at he
           case row sz2 es2=>
            cases hc2:(es2.length==g2&&Z4 es2)with
            |false=>rw[hc2]at he;cases he
            |true=>
             rw[hc2]at he;simp only[cond_true,Option.some.injEq]at he;subst he;have hrel:Sim P T0 X h w0 (Pure.pure (Next.value vc):Sem Next) (AV.isl false ex sz2<|(es2.drop off2).take len,[b+1],some (b+1,AObj.gone)):=by
              refine MY m0' hR (Sem.run_pure ..) ?_;dsimp only;rw[hb2];dsimp only;rw[hc2];rfl
             obtain⟨T1,w1,rv1,hrun1,st1,m1,hv1⟩:=hrel;have hw:w1=w0/\rv1=vc:=by
              rcases hrun1 with hr|⟨hr,_⟩
              .rw[Sem.run_pure]at hr;cases hr;exact⟨rfl,rfl⟩
              .rw[Sem.run_pure]at hr;cases hr
             obtain⟨rfl,rfl⟩:=hw;exact⟨T1,w1,_,hrun,st0.trans st1,m1,vs,rfl,ZxQ (Yb st1 _ _ hvs) hvc hv1⟩
set_option maxHeartbeats 1000000 in
def MZ(c:Ctx E T X h w)(hf:FrR T X w fr a.tmps){o:Oper}{q:AOp}{aid:Nat}{res:Zt}(hid:aid<=h.length)(hT:T aid=none)(hc:Gb P o.op q=true)(he:Z8 E fr h aid q=some res):
 Sim P T X h w (execOp a.eval o) res:=by
 obtain⟨dst,op,ty,pos,aft,gd⟩:=o;simp only at hc;have gl:=c.gl;have m:=c.m;have hX:=c.hX;unfold Gb at hc;split at hc
 .next x y=>exact MY m (evR gl hf hc) rfl he
 .next x y=>exact MY m (evR gl hf hc) rfl he
 .next x y=>
  obtain⟨u,hu,rfl⟩:=ZY he;cases hu;exact Sim.pure m rfl (evR gl hf hc)
 .next x y=>
  obtain⟨u,hu,rfl⟩:=ZY he;cases hu;exact Sim.pure m rfl (evR gl hf hc)
 .next x sz=>
  simp only[ZWT,decide_eq_true_eq]at hc;cases MG hc.1;simp only[Z8,Option.some.injEq]at he;subst he;exact MH m hid hT hc.2 rfl
 .next x sz=>
  simp only[ZWT,decide_eq_true_eq]at hc;cases MG hc.1;simp only[Z8,Option.some.injEq]at he;subst he;exact MH m hid hT hc.2 rfl
 .next cc x y c' x' y'=>
  simp only[ZWT]at hc;have h1:=evR gl hf hc.1.1;have h2:=evR gl hf hc.1.2;have h3:=evR gl hf hc.2;simp only[Z8]at he;generalize ev E fr c'=cv at he h1;cases cv<;>(first|(simp only[reduceCtorEq]at he;done)|skip)
  case bool b=>
   have hb:=Wu h1;cases b
   .obtain⟨u,hu,rfl⟩:=ZY he;cases hu;exact Sim.pure m (by simp[execOp,hb,asBool]) h3
   .obtain⟨u,hu,rfl⟩:=ZY he;cases hu;exact Sim.pure m (by simp[execOp,hb,asBool]) h2
 .next t sz z=>
  simp only[ZWT,decide_eq_true_eq]at hc;obtain⟨v,hv,hcz⟩:=Gf hc.1;simp only[Z8,ev]at he;cases hft:fits sz z with
  |false=>rw[hft]at he;cases he
  |true=>
   rw[hft]at he;simp only[cond_true,Option.some.injEq]at he;subst he;exact UZ (e:=t) m hX hid hT hc.2 hft (Ws v z hcz)<|Qg (s:=Instr.alloc t true<|.tuple #[]) rfl (by simp[Instr.alloc,Xu w hv,KB])
 .next t x sz y=>
  simp only[ZWT,decide_eq_true_eq]at hc;simp only[Z8]at he;cases hft:fits sz (ev E fr y)with
  |false=>rw[hft]at he;cases he
  |true=>
   rw[hft]at he;simp only[cond_true,Option.some.injEq]at he;subst he;exact UZ (e:=t) m hX hid hT hc.2 hft (evR gl hf hc.1)<|Qg (s:=Instr.box t<|a.eval x) rfl (by simp[Instr.box,KB])
 .next t sz z=>
  simp only[ZWT,decide_eq_true_eq]at hc;obtain⟨v,hv,hcz⟩:=Gf hc.1;simp only[Z8,ev]at he;obtain⟨hft,⟨bw,hcl,rfl⟩|rfl⟩:=MV he
  .exact Mj (e:=t) m hX hft hcl (Ws v z hcz)<|Qg (s:=Instr.alloc t true<|.tuple #[]) rfl (by simp[Instr.alloc,Xu w hv,KB])
  .exact UZ (e:=t) m hX hid hT hc.2 hft (Ws v z hcz)<|Qg (s:=Instr.alloc t true<|.tuple #[]) rfl (by simp[Instr.alloc,Xu w hv,KB])
 .next t x sz y=>
  simp only[ZWT,decide_eq_true_eq]at hc;simp only[Z8]at he;obtain⟨hft,⟨bw,hcl,rfl⟩|rfl⟩:=MV he
  .exact Mj (e:=t) m hX hft hcl (evR gl hf hc.1)<|Qg (s:=Instr.box t<|a.eval x) rfl (by simp[Instr.box,KB])
  .exact UZ (e:=t) m hX hid hT hc.2 hft (evR gl hf hc.1)<|Qg (s:=Instr.box t<|a.eval x) rfl (by simp[Instr.box,KB])
 .next t ps z qs=>
  simp only[ZWT]at hc;obtain⟨hz,hp⟩:=hc;obtain⟨zv,hzv,hzc⟩:∃zv,YH P t=some zv/\Wr zv.cells.toList z=true:=by
   cases hzv:YH P t with
   |none=>rw[hzv]at hz;cases hz
   |some v=>rw[hzv]at hz;exact⟨v,rfl,hz⟩
  refine CT (a:=a) m gl hf hzv hzc ?_ (λrv hr=>Qg (s:=Instr.build t<|ps.map λ(i,x)=>(i,a.eval x)) rfl hr) he
  cases hs:V5 P t with
  |some fs=>
   rw[hs]at hp;simp only[ZWT]at hp;obtain⟨l,hl⟩:=ZYB.1 hp.1;exact .inl ⟨fs,l,Rh hs,hl,hp.2⟩
  |none=>
   rw[hs]at hp;cases ha:V4 P t with
   |none=>rw[ha]at hp;cases hp
   |some ne=>
    obtain⟨n,e⟩:=ne;rw[ha]at hp;simp only at hp;cases hsz:ZR P e with
    |none=>rw[hsz]at hp;cases hp
    |some sz=>rw[hsz]at hp;exact .inr ⟨n,e,sz,Rg ha,hsz,hp⟩
 .next t len ps fz ex sz z len' qs=>
  cases hs:isSlice P t with
  |none=>rw[hs]at hc;cases hc
  |some e=>
   rw[hs]at hc;simp only[ZWT,decide_eq_true_eq]at hc;obtain⟨⟨⟨⟨⟨rfl,h0⟩,hlen⟩,hsz⟩,hz⟩,hp⟩:=hc;obtain⟨zv,hzv,hzc⟩:=Gf hz;exact CV (a:=a) m gl hf hX hid hT h0 hlen (KJ hs) hsz hzv hzc hp (λrv w' hr=>Qg (s:=Instr.buildSlice t len<|ps.map λ(i,x)=>(i,a.eval x)) rfl hr) he
 .next t x n y=>
  simp only[ZWT]at hc;exact Cv m hc.1 (evR gl hf hc.2) (λrv hr=>Qg (s:=Instr.loadAt t<|a.eval x) rfl hr) he
 .next t x n c y=>
  simp only[ZWT]at hc;exact Zzf m hc.1 (evR gl hf hc.2) (λrv hr=>Qg (s:=Instr.loadAt t<|a.eval x) rfl hr) he
 .next t x y n x' y'=>
  simp only[ZWT,decide_eq_true_eq]at hc;exact Cx m hc.1.1 (evR gl hf hc.1.2) (evR gl hf hc.2) (λw' hr=>Ri (s:=Instr.storeAt t (a.eval x)<|a.eval y) rfl hr) he
 .next x y=>
  refine CE m (evR gl hf hc) ?_ he;rintro(⟨p,hp⟩|⟨f,c,e,hp⟩)<;>simp[execOp,hp]
 .next bop t x yt neg y=>
  simp only[ZWT,decide_eq_true_eq]at hc;obtain⟨⟨rfl,hp⟩,h1⟩:=hc;refine ZGx (neg:=neg) m (evR gl hf h1) ?_ he;intro p hv;have hg:(eqGuard (if neg then .neq else .eql) t x (.const<|.pointer none) (a.eval x)<|.pointer none).run P w=.ok () w:=MI (λ_ us _ hu=>by cases hu)<|.inr<|by simp
  refine Qg (s:=(do eqGuard (if neg then .neq else .eql) t x (.const<|.pointer none) (a.eval x) (.pointer none);binOp (if neg then .neq else .eql) t (a.eval x) (.pointer none))) rfl ?_
  simp only[Sem.run_bind,hg,Result.andThen_ok];unfold ZFF at hp;split at hp
  .rename_i e hu;rw[hv];have hq:(Op.equalIn Op.maxDepth t (.pointer p)<|.pointer none).run P w=.ok p.isNone w:=by
    obtain⟨n,hn⟩:∃n,Op.maxDepth=n+1:=⟨9999,rfl⟩;rw[hn];cases p<;>simp[Op.equalIn,run_underlying hu]
   cases neg with
   |false=>simp[binOp,Op.equal,hq]
   |true=>cases p<;>simp[binOp,Op.equal,hq]
  .cases hp
 .next bop t x y yt op' x' y'=>
  simp only[ZWT,decide_eq_true_eq]at hc;obtain⟨⟨rfl,h1⟩,h2⟩:=hc;have r1:=evR gl hf h1;have r2:=evR gl hf h2;obtain⟨u,hu,rfl⟩:=ZY he;obtain⟨rv,q1,q2⟩:=Cp (P:=P) hu r1 r2;refine Sim.pure m (Qg (s:=(do eqGuard bop t x y (a.eval x) (a.eval y);binOp bop t (a.eval x) (a.eval y))) rfl ?_) q1;have hg:(eqGuard bop t x y (a.eval x)<|a.eval y).run P w=.ok () w:=by
   refine MI ?_ ?_
   .intro vs us e1 _;generalize ev E fr x'=xv at hu r1;cases xv<;>first|(simp[YZ]at hu;done)|skip
    .rw[QS r1]at e1;cases e1
    .rw[Yj r1]at e1;cases e1
   .left;intro e1;generalize ev E fr x'=xv at hu r1;cases xv<;>first|(simp[YZ]at hu;done)|skip
    .rw[QS r1]at e1;cases e1
    .rw[Yj r1]at e1;cases e1
  simp only[Sem.run_bind,hg,Result.andThen_ok,q2]
 .next bop t x y yt neg ag ks x' y'=>
  simp only[ZWT,decide_eq_true_eq,ZXn]at hc;obtain⟨⟨⟨⟨⟨hop,hk⟩,rfl⟩,hgt⟩,h1⟩,h2⟩:=hc;have r1:=evR gl hf h1;have r2:=evR gl hf h2;obtain⟨u,hu,rfl⟩:=ZY he;simp only[ZXi]at hu;obtain⟨b,hb,rfl⟩:=hu;have heq:=HV (P:=P) hk hb r1 r2;have hni:a.eval x≠.nilIface:=by
   intro e1;generalize ev E fr x'=xv at hb r1;cases hag:ZF P t with
   |true=>
    rw[hag]at hb;cases xv<;>simp[Zz]at hb
    obtain⟨vs,hv,_⟩:=r1;rw[hv]at e1;cases e1
   |false=>
    rw[hag]at hb;simp only[Zz]at hb;have hl:=(X5 hb).1;cases ks with
    |nil=>simp at hl
    |cons k ks=>
     simp only[ZE]at hb;cases he1:eq1 k xv (ev E fr y')with
     |none=>rw[he1]at hb;cases hb
     |some b0=>
      rcases k with _|_|_|k<;>cases xv<;>simp[eq1]at he1
      .rw[Wu r1]at e1;cases e1
      .rw[QS r1]at e1;cases e1
      .rw[Yj r1]at e1;cases e1
  have hg:(eqGuard bop t x y (a.eval x)<|a.eval y).run P w=.ok () w:=MI (λ_ _ _ _=>hgt)<|.inl hni
  refine Sim.pure m (Qg (s:=(do eqGuard bop t x y (a.eval x) (a.eval y);binOp bop t (a.eval x) (a.eval y))) rfl (rv:=.bool (if neg=true then !b else b)) ?_)<|by cases neg<;>rfl
  simp only[Sem.run_bind,hg,Result.andThen_ok];have hbin:(binOp .eql t (a.eval x)<|a.eval y).run P w=.ok (.bool b) w/\(binOp .neq t (a.eval x)<|a.eval y).run P w=.ok (.bool !b) w:=by
   cases hag:ZF P t with
   |true=>
    rw[hag]at hb;generalize ev E fr x'=xv at hb r1;generalize ev E fr y'=yv at hb r2;cases xv<;>cases yv<;>simp[Zz]at hb
    obtain⟨vs,hv,_⟩:=r1;obtain⟨us,hus,_⟩:=r2;rw[hv,hus]at heq⊢;constructor<;>simp[binOp,heq]
   |false=>
    rw[hag]at hb;simp only[Zz]at hb;have hl:=(X5 hb).1;generalize ev E fr x'=xv at hb r1;generalize ev E fr y'=yv at hb r2;cases ks with
    |nil=>simp at hl
    |cons k ks=>
     cases ks with
     |cons _ _=>simp at hl
     |nil=>
      simp only[ZE]at hb;cases he1:eq1 k xv yv with
      |none=>rw[he1]at hb;cases hb
      |some b0=>
       rw[he1]at hb;simp at hb;subst hb;rcases k with _|_|_|k<;>cases xv<;>cases yv<;>simp[eq1]at he1
       .rw[Wu r1,Wu r2]at heq⊢;constructor<;>simp[binOp,heq]
       .obtain⟨rfl,rfl⟩:=he1;rw[QS r1,QS r2];constructor<;>simp[binOp,Op.intCmp]<;>rfl
       .rw[Yj r1,Yj r2];subst he1;constructor<;>simp[binOp,Op.stringOp,Z3,toList_data]
  cases neg with
  |true=>simp only[if_true]at hop⊢;rw[hop];exact hbin.2
  |false=>simp only[ZX2,if_false]at hop⊢;rw[hop];exact hbin.1
 .next uop t x op' y=>
  simp only[ZWT,decide_eq_true_eq]at hc;obtain⟨rfl,h1⟩:=hc;obtain⟨u,hu,rfl⟩:=ZY he;obtain⟨rv,q1,q2⟩:=Cq (P:=P) hu<|evR gl hf h1;exact Sim.pure m (Qg (s:=Op.unary uop<|a.eval x) rfl q2) q1
 .next s d x k y=>
  simp only[ZWT]at hc;obtain⟨h1,h2⟩:=hc;have r1:=evR gl hf h1;simp only[Z8]at he;generalize ev E fr y=yv at he r1;split at h2
  .next ds k' kk e1 e2=>
   have h2:=of_decide_eq_true h2;subst h2;cases yv<;>(first|(simp only[reduceCtorEq]at he;done)|skip)
   obtain⟨u,hu,rfl⟩:=ZY he;cases hu;refine Sim.pure m (Qg (s:=convert s d<|a.eval x) rfl ?_) rfl;rw[QS r1];simp only[convert,Sem.run_bind,run_underlying e1,run_underlying e2,Result.andThen_ok];cases ds<;>rfl
  .next ds e1 e2=>
   cases yv<;>(first|(simp only[reduceCtorEq]at he;done)|skip)
   obtain⟨u,hu,rfl⟩:=ZY he;cases hu;refine Sim.pure m (Qg (s:=convert s d<|a.eval x) rfl ?_) r1;rw[Yj r1];simp only[convert,Sem.run_bind,run_underlying e1,run_underlying e2,Result.andThen_ok];cases ds<;>rfl
  .cases h2
 .next t x i n off y=>
  cases hs:V5 P t with
  |none=>rw[hs]at hc;cases hc
  |some fs=>
   rw[hs]at hc;simp only at hc;cases hfi:fs[i]? with
   |none=>rw[hfi]at hc;cases hc
   |some f=>
    rw[hfi]at hc;simp only[ZWT,decide_eq_true_eq]at hc;obtain⟨⟨rfl,hn⟩,hx⟩:=hc;exact CL m (Rh hs) hfi hn (evR gl hf hx) (λrv hr=>Qg (s:=Instr.field t (a.eval x) i) rfl hr) he
 .next t x i off y=>
  cases hs:V5 P t with
  |none=>rw[hs]at hc;cases hc
  |some fs=>
   rw[hs]at hc;simp only at hc;cases hfi:fs[i]? with
   |none=>rw[hfi]at hc;cases hc
   |some f=>
    rw[hfi]at hc;simp only[ZWT,decide_eq_true_eq]at hc;obtain⟨⟨rfl,hn⟩,hx⟩:=hc;cases hsz:ZR P f.type with
    |none=>rw[hsz]at hn;cases hn
    |some n=>
     rw[hsz]at hn;exact CD m (Rh hs) hfi hsz (of_decide_eq_true hn) (evR gl hf hx) (λrv hr=>Qg (s:=Instr.fieldAt t (a.eval x) i) rfl hr) he
 .next t x i sz y j=>
  cases hs:isSlice P t with
  |none=>rw[hs]at hc;cases hc
  |some e=>
   rw[hs]at hc;simp only[ZWT,decide_eq_true_eq]at hc;exact CF m (KJ hs) hc.1.1 (evR gl hf hc.1.2) (evR gl hf hc.2) (λrv hr=>Qg (s:=Instr.indexAt t (a.eval x)<|a.eval i) rfl hr) he
 .next t x i sz len y j=>
  cases hs:V4 P t with
  |none=>rw[hs]at hc;cases hc
  |some ne=>
   obtain⟨n,e⟩:=ne;rw[hs]at hc;simp only[ZWT,decide_eq_true_eq]at hc;obtain⟨⟨⟨rfl,hsz⟩,h1⟩,h2⟩:=hc;exact CG m (Rg hs) hsz (evR gl hf h1) (evR gl hf h2) (λrv hr=>Qg (s:=Instr.indexAt t (a.eval x)<|a.eval i) rfl hr) he
 .next t x i y j=>
  simp only[ZWT]at hc;exact CJ m (Gd hc.1.1) (evR gl hf hc.1.2) (evR gl hf hc.2) (λrv hr=>Qg (s:=Instr.index t (a.eval x)<|a.eval i) rfl hr) he
 .next t x i n sz len y j=>
  cases hs:V4 P t with
  |none=>rw[hs]at hc;cases hc
  |some ne=>
   obtain⟨k,e⟩:=ne;rw[hs]at hc;simp only[ZWT,decide_eq_true_eq]at hc;obtain⟨⟨⟨⟨rfl,hsz⟩,hn⟩,h1⟩,h2⟩:=hc;exact CK m (Rg hs) hn hsz (evR gl hf h1) (evR gl hf h2) (λrv hr=>Qg (s:=Instr.index t (a.eval x)<|a.eval i) rfl hr) he
 .next x i y j=>
  simp only[ZWT,decide_eq_true_eq]at hc;obtain⟨rfl,h1⟩:=hc;exact CM m (evR gl hf h1) (λrv hr=>Qg (s:=Instr.extract (a.eval x) i) rfl hr) he
 .next fn f cc fn' f' c'=>
  simp only[ZWT,decide_eq_true_eq]at hc;obtain⟨⟨rfl,h1⟩,h2⟩:=hc;obtain⟨u,hu,rfl⟩:=ZY he;cases hu;refine Sim.pure m (Qg (s:=Instr.makeFunc fn (f.map a.eval)<|cc.map a.eval) rfl rfl) ⟨f.map a.eval,cc.map a.eval,rfl,?_,?_⟩
  .simpa using VF gl hf h1
  .simpa using VF gl hf h2
 .next t r=>
  simp only[Z8,Option.some.injEq]at he;subst he;cases r with
  |some _=>cases hc
  |none=>exact B9 (t:=t) m hX hid hT<|λrv w' hr=>Qg (s:=Instr.makeMap t none) rfl hr
 .next t mm k v ag kk m' k' v'=>
  cases hs:isMap P t with
  |none=>rw[hs]at hc;cases hc
  |some kv=>
   obtain⟨kt,vt⟩:=kv;rw[hs]at hc;simp only[ZWT,decide_eq_true_eq]at hc;obtain⟨⟨⟨⟨hk,rfl⟩,h1⟩,h2⟩,h3⟩:=hc;exact ME m (Ge hs) hk (evR gl hf h1) (evR gl hf h2) (evR gl hf h3) (λw' hr=>Ri (s:=Instr.mapUpdate t (a.eval mm) (a.eval k)<|a.eval v) rfl hr) he
 .next t mm k v ag kk m' k' v'=>
  cases hs:isMap P t with
  |none=>rw[hs]at hc;cases hc
  |some kv=>
   obtain⟨kt,vt⟩:=kv;rw[hs]at hc;simp only[ZWT,decide_eq_true_eq]at hc;obtain⟨⟨⟨⟨hk,rfl⟩,h1⟩,h2⟩,h3⟩:=hc;exact ME m (Ge hs) hk (evR gl hf h1) (evR gl hf h2) (evR gl hf h3) (λw' hr=>Ri (s:=Instr.mapUpdate t (a.eval mm) (a.eval k)<|a.eval v) rfl hr) he
 .next t mm k ok ag kk ok' z m' k'=>
  cases hs:isMap P t with
  |none=>rw[hs]at hc;cases hc
  |some kv=>
   obtain⟨kt,vt⟩:=kv;rw[hs]at hc;simp only[ZWT,decide_eq_true_eq]at hc;obtain⟨⟨⟨⟨⟨hk,rfl⟩,rfl⟩,hz⟩,h1⟩,h2⟩:=hc;obtain⟨zv,hzv,hzc⟩:=Gf hz;exact B5 m (Ge hs) hk hzv hzc (evR gl hf h1) (evR gl hf h2) (λrv hr=>Qg (s:=Instr.lookup t (a.eval mm) (a.eval k) ok) rfl hr) he
 .next t l cc sz z bytes l' c'=>
  cases hs:isSlice P t with
  |none=>rw[hs]at hc;cases hc
  |some e=>
   rw[hs]at hc;simp only[ZWT]at hc;obtain⟨⟨hi,h1⟩,h2⟩:=hc;cases hie:P.info? e with
   |none=>rw[hie]at hi;cases hi
   |some i=>
    rw[hie]at hi;simp only[ZWT,decide_eq_true_eq]at hi;obtain⟨⟨hsz,hby⟩,hz⟩:=hi;cases hzi:i.zero with
    |none=>rw[hzi]at hz;cases hz
    |some zv=>
     rw[hzi]at hz;exact CO m hX hid hT (KJ hs) hie hsz hby hzi hz (evR gl hf h1) (evR gl hf h2) (λrv w' hr=>Qg (s:=Instr.makeSlice t (a.eval l)<|a.eval cc) rfl hr) he
 .next t x lo hi mx sz y lo' hi' mx'=>
  cases hs:isSlice P t with
  |none=>rw[hs]at hc;cases hc
  |some e=>
   rw[hs]at hc;simp only[ZWT,decide_eq_true_eq]at hc;obtain⟨⟨⟨⟨hsz,h1⟩,h2⟩,h3⟩,h4⟩:=hc;exact CH m (KJ hs) hsz (evR gl hf h1) (JW gl hf h2) (JW gl hf h3) (JW gl hf h4) (λrv hr=>Qg (s:=Instr.sliceAt t (a.eval x) (lo.map a.eval) (hi.map a.eval)<|mx.map a.eval) rfl hr) he
 .next t x lo hi y lo' hi'=>
  simp only[ZWT]at hc;obtain⟨⟨⟨h0,h1⟩,h2⟩,h3⟩:=hc;exact CI m (Gd h0) (evR gl hf h1) (JW gl hf h2) (JW gl hf h3) (λrv hr=>Qg (s:=Instr.sliceAt t (a.eval x) (lo.map a.eval) (hi.map a.eval) none) rfl hr) he
 .next cl k y=>
  obtain⟨callee,args,argTypes⟩:=cl;simp only at hc;split at hc
  .rename_i x t e2 e3;simp only[ZWT]at hc;have hargs:args = #[x]:=by apply ZXV;simpa using e2
   have htys:argTypes = #[t]:=by apply ZXV;simpa using e3
   subst hargs htys;exact Bx (ty:=ty) m hc.1 (evR gl hf hc.2) (λrv hr=>by simp[execOp,resolve,invoke,builtin,hr]) he
  .cases hc
 .next cl fz sz bytes s x=>
  obtain⟨callee,args,argTypes⟩:=cl;simp only at hc;split at hc
  .rename_i s' x' t t2 e2 e3;simp only[ZWT,ZXn]at hc;obtain⟨⟨⟨⟨hi,h2⟩,h3⟩,h4⟩,h5⟩:=hc;have hargs:args = #[s',x']:=by apply ZXV;simpa using e2
   have htys:argTypes = #[t,t2]:=by apply ZXV;simpa using e3
   subst hargs htys;cases hs:isSlice P t with
   |none=>rw[hs]at hi;cases hi
   |some e=>
    rw[hs]at hi;simp only at hi;cases hie:P.info? e with
    |none=>rw[hie]at hi;cases hi
    |some i=>
     rw[hie]at hi;simp only[ZWT,decide_eq_true_eq]at hi;obtain⟨⟨hsz,hby⟩,hz⟩:=hi;cases hzi:i.zero with
     |none=>rw[hzi]at hz;cases hz
     |some zv=>
      rw[hzi]at hz;obtain⟨d,hd⟩:=ZYB.1 h2;have hd2:∀k,d≠.int k:=by
       rintro k rfl;simp[MF,hd]at h3
      exact B0 (ty:=ty) m hX hid hT (KJ hs) ⟨d,hd,hd2⟩ hie hsz hby hzi (of_decide_eq_true hz) (evR gl hf h4) (evR gl hf h5) (λrv w' hr=>by simp[execOp,resolve,invoke,builtin,hr]) he
  .cases hc
 .next cl sz bytes s x=>
  obtain⟨callee,args,argTypes⟩:=cl;simp only at hc;split at hc
  .rename_i s' x' t t2 e2 e3;simp only[ZWT,ZXn]at hc;obtain⟨⟨⟨⟨hi,h2⟩,h3⟩,h4⟩,h5⟩:=hc;have hargs:args = #[s',x']:=by apply ZXV;simpa using e2
   have htys:argTypes = #[t,t2]:=by apply ZXV;simpa using e3
   subst hargs htys;cases hs:isSlice P t with
   |none=>rw[hs]at hi;cases hi
   |some e=>
    rw[hs]at hi;simp only at hi;cases hie:P.info? e with
    |none=>rw[hie]at hi;cases hi
    |some i=>
     rw[hie]at hi;simp only[ZWT,decide_eq_true_eq]at hi;obtain⟨⟨hsz,hby⟩,hz⟩:=hi;cases hzi:i.zero with
     |none=>rw[hzi]at hz;cases hz
     |some zv=>
      rw[hzi]at hz;obtain⟨d,hd⟩:=ZYB.1 h2;have hd2:∀k,d≠.int k:=by
       rintro k rfl;simp[MF,hd]at h3
      simp only[Z8]at he;cases hap:Qt h aid false sz bytes (ev E fr s) (ev E fr x)with
      |none=>rw[hap]at he;cases he
      |some r=>
       rw[hap]at he;exact Zze (B0 (ty:=ty) m hX hid hT (KJ hs) ⟨d,hd,hd2⟩ hie hsz hby hzi (of_decide_eq_true hz) (evR gl hf h4) (evR gl hf h5) (λrv w' hr=>by simp[execOp,resolve,invoke,builtin,hr]) hap) (ZxP hid hap) he
  .cases hc
 .next cl mx x y=>
  obtain⟨callee,args,argTypes⟩:=cl;simp only at hc;split at hc
  .rename_i x' y' e3;simp only[ZWT,ZXn]at hc;have hargs:args = #[x',y']:=by apply ZXV;simpa using e3
   subst hargs;obtain⟨⟨rfl,h1⟩,h2⟩:=hc;exact MW (mx:=false) m (evR gl hf h1) (evR gl hf h2) (λk p j q hx hy=>by simp[execOp,resolve,invoke,builtin,Builtin.min_,Builtin.min2,hx,hy]) he
  .rename_i x' y' e3;simp only[ZWT]at hc;have hargs:args = #[x',y']:=by apply ZXV;simpa using e3
   subst hargs;obtain⟨⟨rfl,h1⟩,h2⟩:=hc;exact MW (mx:=true) m (evR gl hf h1) (evR gl hf h2) (λk p j q hx hy=>by simp[execOp,resolve,invoke,builtin,Builtin.max_,Builtin.max2,hx,hy]) he
  .cases hc
 .next t x y=>
  simp only[ZWT]at hc;exact Ba (t:=t) m hX hid hT (Gd hc.1) (evR gl hf hc.2) (λrv w' hr=>Qg (s:=Instr.range t<|a.eval x) rfl hr) he
 .next x y=>exact Bb (t:=ty) m (evR gl hf hc) (λrv w' hr=>Qg (s:=Instr.next (a.eval x) true ty) rfl hr) he
 .next t x t' y=>
  simp only[ZWT,decide_eq_true_eq]at hc;obtain⟨⟨rfl,h1⟩,h2⟩:=hc;obtain⟨u,hu,rfl⟩:=ZY he;cases hu;refine Sim.pure m (Qg (s:=Instr.makeInterface t<|a.eval x) rfl (rv:=.iface t<|a.eval x) ?_) ⟨_,rfl,evR gl hf h1⟩;cases hu:P.underlying t with
  |none=>rw[hu]at h2;cases h2
  |some d=>
   rw[hu]at h2;simp only[Instr.makeInterface,Sem.run_bind,run_underlying hu,Result.andThen_ok];cases d<;>first|rfl|cases h2
 .cases hc
end Go.AM
namespace Go.AM
open Go
variable [Dr]
variable {P:Program} {E:Env} {T:Ty} {X:Xt} {w:World} {h:Hp} {fr:Fr} {a:Act}
def ZFG(m:M T X h w){b sz g C B:Nat}{r:Option Nat}{es:List AV}(hb:h[b]?=some (.row sz es))(hT:T b=some (.row sz g r C B)):
 Step T w (upd T b<|.row sz (g+1) none 0 0) w/\M (upd T b<|.row sz (g+1) none 0 0) X (setH h b .gone) w/\
  ∀q,(upd T b<|.row sz (g+1) none 0 0).rng q->∃b' c',b'≠b/\T b'=some c'/\c'.real=some q:=by
 have hblt:b<h.length:=(ZXg.1 hb).1;have hrngsub:∀q,(upd T b<|.row sz (g+1) none 0 0).rng q->∃b' c',b'≠b/\T b'=some c'/\c'.real=some q:=by
  rintro q ⟨b',c',h1,h2⟩;by_cases e:b'=b
  .subst e;rw[upd_same]at h1;cases h1;cases h2
  .rw[upd_ne _ _ e]at h1;exact⟨b',c',e,h1,h2⟩
 have st:Step T w (upd T b<|.row sz (g+1) none 0 0) w:=by
  refine⟨rfl,rfl,rfl,ZX0 _,λy c hy=>?_,λ_ _ _=>rfl,λq hq=>?_,λ_=>ZX0 _⟩
  .by_cases e:y=b
   .subst e;rw[hT]at hy;cases hy;exact⟨_,upd_same _ _ _,rfl,.inr<|by omega⟩
   .exact⟨c,by rw[upd_ne _ _ e];exact hy,.refl _⟩
  .obtain⟨b',c',_,h1,h2⟩:=hrngsub q hq;exact .inl ⟨b',c',h1,h2⟩
 exact⟨st,WZ m b .gone _ (ZXU hblt) st (λ_ _ _ _ _ _=>rfl) (λr hr=>by cases hr) trivial,hrngsub⟩
def ZGy(m:M T X h w){b sz r C B off:Nat}{es:List AV}(hb:h[b]?=some (.row sz es))(hT:T b=some (.row sz es.length (some r) C B))(hoff:off<=es.length):
 Step T w (upd (upd T b<|.row sz (es.length+1) none 0 0) h.length<|.row sz (es.length-off) (some r) C<|B+off) w/\
  M (upd (upd T b<|.row sz (es.length+1) none 0 0) h.length<|.row sz (es.length-off) (some r) C<|B+off) X (setH h b .gone++[.row sz<|es.drop off]) w:=by
 obtain⟨r1,C1,B1,hT1,h0,hC,hr⟩:=XV m hb;rw[hT]at hT1;cases hT1;obtain⟨cs,el,k1,k2,k3⟩:=hr;obtain⟨st1,m1,hsub⟩:=ZFG m hb hT;have hlen:(setH h b .gone).length=h.length:=by
  have hblt:b<h.length:=(ZXg.1 hb).1;unfold setH;rw[show Nat.blt b h.length=true by simpa using hblt,cond_true,ZXc]
 have hTn:upd T b (.row sz (es.length+1) none 0 0) h.length=none:=JR m1<|.inl<|by simp[hlen]
 have hrng:T.rng r:=⟨b,_,hT,rfl⟩;have st:Step T w (upd (upd T b<|.row sz (es.length+1) none 0 0) h.length<|.row sz (es.length-off) (some r) C<|B+off) w:=by
  refine⟨rfl,rfl,rfl,ZX0 _,λy c hy=>?_,λ_ _ _=>rfl,λq hq=>?_,λ_=>ZX0 _⟩
  .obtain⟨c1,q1,q2⟩:=st1.le y c hy;have hne:y≠h.length:=λe=>by
    subst e;rw[hTn]at q1;cases q1
   exact⟨c1,by rw[upd_ne _ _ hne];exact q1,q2⟩
  .obtain⟨b',c',h1,h2⟩:=hq;by_cases e:b'=h.length
   .subst e;rw[upd_same]at h1;cases h1;cases h2;exact .inl hrng
   .rw[upd_ne _ _ e]at h1;exact st1.rng q ⟨b',c',h1,h2⟩
 refine⟨st,?_⟩;have hnr:∀b' c',upd T b (.row sz (es.length+1) none 0 0) b'=some c'->c'.real≠some r:=by
  intro b' c' h1 h2;obtain⟨b2,c2,hne,q1,q2⟩:=hsub r ⟨b',c',h1,h2⟩;exact hne<|m.inj b2 c2 b _ r q1 hT q2 rfl
 have hset:∀x,(setH h b .gone++[.row sz<|es.drop off])[x]?=if x=h.length then some (.row sz<|es.drop off)else(setH h b .gone)[x]?:=by
  intro x;by_cases e:x=h.length
  .subst e;rw[if_pos rfl,ZY0 (by omega),hlen,Nat.sub_self];rfl
  .rw[if_neg e];by_cases hx:x<h.length
   .rw[ZXK<|by omega]
   .rw[ZXQ (by simp;omega),ZXQ<|by omega]
 refine⟨?_,?_,?_,?_⟩
 .intro b1 c1 b2 c2 q h1 h2 h3 h4;by_cases e1:b1=h.length<;>by_cases e2:b2=h.length
  .omega
  .subst e1;rw[upd_same]at h1;cases h1;cases h3;rw[upd_ne _ _ e2]at h2;exact(hnr _ _ h2 h4).elim
  .subst e2;rw[upd_same]at h2;cases h2;cases h4;rw[upd_ne _ _ e1]at h1;exact(hnr _ _ h1 h3).elim
  .rw[upd_ne _ _ e1]at h1;rw[upd_ne _ _ e2]at h2;exact m1.inj b1 c1 b2 c2 q h1 h2 h3 h4
 .intro q hq;rcases st.rng q hq with h1|h1
  .exact m.lt q h1
  .obtain⟨b',c',h2,h3⟩:=hq;by_cases e:b'=h.length
   .subst e;rw[upd_same]at h2;cases h2;cases h3;exact m.lt _ hrng
   .rw[upd_ne _ _ e]at h2;exact m1.lt q ⟨b',c',h2,h3⟩
 .intro q hq;rcases st.rng q hq with h1|h1
  .exact m.notX q h1
  .obtain⟨b',c',h2,h3⟩:=hq;by_cases e:b'=h.length
   .subst e;rw[upd_same]at h2;cases h2;cases h3;exact m.notX _ hrng
   .rw[upd_ne _ _ e]at h2;exact m1.notX q ⟨b',c',h2,h3⟩
 .intro x;rw[hset x];by_cases e:x=h.length
  .subst e;rw[if_pos rfl,upd_same];refine⟨rfl,by simp,h0,by omega,cs,el,k1,k2,?_⟩
   rw[ZXw];exact HS st _ _ rfl _ _ (UU off k3)
  .rw[if_neg e,upd_ne _ _ e];by_cases e2:x=b
   .subst e2;have:=m1.obj x;rw[upd_same]at this⊢;rw[Ks h x .gone<|ZXU (ZXg.1 hb).1,if_pos rfl]at this⊢;exact this
   .rw[upd_ne _ _ e2,Ks h b .gone<|ZXU (ZXg.1 hb).1,if_neg e2];exact Mg st _ _ (λt q ht hq=>rfl)<|m.obj x
set_option maxHeartbeats 400000 in
def ZGz{t t2 e:TypeId}{sz b off len:Nat}{ty:TypeId}{es ys:List AV}{bd:Option Addr}{r C B cap cap2:Nat}(m:M T X h w)
 (ht:P.underlying t=some (.slice e)) (ht2:∃d,P.underlying t2=some d/\∀k,d≠.int k) (hszB:ZR P e=some sz)
 (hb:h[b]?=some (.row sz es)) (hT3:T b=some (.row sz es.length (some r) C B)) (hfit:ys.all (fits sz)=true) (hpos:0<ys.length) (hoff:off+len=es.length)
 (hcC:B+off+cap<=C) (hroom:len+ys.length<=cap) (hys:ys=[]\/∃r o,bd=some ⟨r,o,none⟩/\ZA T X w sz r ys o):
 ∃w',(Builtin.append_ #[t,t2] ty #[.slice (some ⟨r,(B+off)*sz,none⟩) len cap,.slice bd ys.length cap2]).run P w=.ok (.slice (some ⟨r,(B+off)*sz,none⟩) (len+ys.length) cap) w'/\
  Step T w (upd T b<|.row sz (es++ys).length (some r) C B) w'/\M (upd T b<|.row sz (es++ys).length (some r) C B) X (setH h b<|.row sz<|es++ys) w':=by
 obtain⟨r1,C1,B1,hT1,q0,hC,hr⟩:=XV m hb;rw[hT3]at hT1;cases hT1;have hlen:(es++ys).length=es.length+ys.length:=by simp
 obtain⟨cs,el,k1,k2,k3⟩:=hr;obtain⟨us,c2,c3,c4,hrun⟩:=run_append_room (P:=P) (ty:=ty) (cap2:=cap2) (o:=(B+off)*sz) ht ht2 hszB hys (R8 hfit) k1 hroom<|by rw[k2,<-ZXw];exact ZY7 _ hcC
 obtain⟨pre,os,rest,hos,hpl,hRo,hol⟩:=HZ k3 k1 k2 hC;have hplace:(B+off)*sz+len*sz=B*sz+es.length*sz:=by rw[<-ZXw,<-ZXw,ZXM,hoff]
 rw[hplace]at hrun;obtain⟨new,hnew⟩:∃new,new=(cs.toList.take (B*sz+es.length*sz)++us++cs.toList.drop (B*sz+es.length*sz+us.length)):=⟨_,rfl⟩;rw[<-hnew]at hrun;have hnew2:new=pre++((os++us)++cs.toList.drop (B*sz+es.length*sz+us.length)):=by
  rw[hnew];have:cs.toList.take (B*sz+es.length*sz)=pre++os:=by
   rw[hos,<-hpl,ZZ8,ZYI hol]
  rw[this];simp[ZXx]
 have hsize:new.length=cs.size:=by
  rw[hnew];have hle:B*sz+es.length*sz+us.length<=cs.size:=by
   rw[c3,<-ZXw,<-ZXw,k2];exact ZY7 _<|by omega
  simp;omega
 have hw':(w.setRow r new.toArray).heap[r]?=some (.cells new.toArray el (0,0)):=setRow_heap w r cs new.toArray el (0,0) k1;obtain⟨st,hm⟩:=JV (w':=w.setRow r new.toArray) (o:=.row sz<|es++ys) (c':=.row sz (es++ys).length (some r) C B) m hT3 rfl rfl ⟨rfl,.inr<|by omega⟩ (KD hb) rfl rfl rfl (setRow_size _ _ _)
  (λx hx=>setRow_other w r x _ hx)
  (λst=>⟨rfl,rfl,q0,by omega,new.toArray,el,hw',by simpa[hsize]using k2,by
   refine Wq (Ms (Kx k3).2.2 c4) ?_;rw[KE];refine Xs (Yb st _ _<|QR hRo c2)<|λj u hj=>?_
   rw[Mm k1];simp only[ZYv];rw[hnew2,ZY0 (by omega),hpl,show B*sz+j-B*sz=j by omega,ZXK (ZXg.1 hj).1]
   exact hj⟩)
 exact⟨_,hrun,st,hm⟩
set_option maxHeartbeats 400000 in
def ZGA{s:Sem Next}{t t2 e:TypeId}{sz bytes:Nat}{i:TypeInfo}{zv:Value}{x y:AV}{v u:Value}{ty:TypeId}{res:AV×Hp}(m:M T X h w)(hX:∀r,X r->r<w.heap.size)
 (ht:P.underlying t=some (.slice e)) (ht2:∃d,P.underlying t2=some d/\∀k,d≠.int k) (hi:P.info? e=some i) (hsz:i.size=sz) (hby:i.bytes=bytes) (hzv:i.zero=some zv) (hzs:zv.cells.size=sz)
 (hx:R T X w x v) (hy:R T X w y u)
 (hs:∀rv w',(Builtin.append_ #[t,t2] ty #[v,u]).run P w=.ok rv w'->s.run P w=.ok (.value rv) w')
 (he:ZE9 h sz bytes x y=some res):∃T' w' rv,(s.run P w=.ok (.value rv) w'\/(s.run P w=.ok .skip w'/\rv=undef))/\Step T w T' w'/\M T' X res.2 w'/\R T' X w' res.1 rv:=by
 have hTn:T h.length=none:=JR m<|.inl<|by simp
 have other:(Qt h h.length false sz bytes x y).map (λr=>(r.1,ZH h r.2.2))=some res->∃T' w' rv,(s.run P w=.ok (.value rv) w'\/(s.run P w=.ok .skip w'/\rv=undef))/\Step T w T' w'/\M T' X res.2 w'/\R T' X w' res.1 rv:=by
  intro he;simp only[ZXi]at he;obtain⟨r,h1,rfl⟩:=he;exact B0 (ty:=ty) m hX (ZX0 _) hTn ht ht2 hi hsz hby hzv hzs hx hy hs h1
 unfold ZE9 at he;split at he
 .rename_i b g off len;split at he
  .rename_i sz' es ys hb hey;cases hc:(es.length==g&&sz'==sz)&&((off+len==g)&&(Qq h sz y&&(ys.all (fits sz)&&(Nat.blt 0 ys.length&&(Nat.blt 0 sz&&(Nat.blt 0 bytes&&Nat.ble ((len+ys.length)*bytes) 140737488355328))))))with
   |false=>rw[hc]at he;cases he
   |true=>
    rw[hc,cond_true]at he;cases he;simp only[ZWT,beq_iff_eq,ZXT]at hc;obtain⟨⟨rfl,rfl⟩,hoff,z2,hfit,hpos,h0,hb0,hbd⟩:=hc;have hbound:=ZXs hbd;obtain⟨bd,cap2,rfl,hcap2,hys⟩:=G6 m hy hey z2;have hex:Q2 h (.sl b es.length off len false)=some (es.drop off):=by
     simp only[Q2,hb,beq_self_eq_true,cond_true];rw[ZXp<|by simp;omega]
    obtain⟨ad,cap,rfl,hcap,hes⟩:=G6 (sz:=sz') m hx hex<|by simp[Qq,hb]
    have hdl:(es.drop off).length=len:=by simp;omega
    rw[hdl]at hcap hx hs;have hszB:ZR P e=some sz':=by simp[ZR,hi,hsz]
    have hlen:(es++ys).length=es.length+ys.length:=by simp
    obtain⟨r,C,B,hT3,q0,hC,hr⟩:=XV m hb;have hx0:=hx;obtain⟨_,sz2,g2,r2,C2,B2,hT2,q1,q2,q3⟩:=hx0;rw[hT3]at hT2;cases hT2;obtain⟨cap',q4,q5,q6,q7⟩:=q3 rfl;have hblt:b<h.length:=(ZXg.1 hb).1;by_cases hroom:len+ys.length<=cap
    .obtain⟨r',rfl,hv⟩:∃r',r=some r'/\Value.slice ad len cap=.slice (some ⟨r',(B+off)*sz',none⟩) len cap':=by
      rcases q7 with⟨r',e1,hv⟩|⟨q8,p,hv,_⟩
      .exact⟨r',e1,hv⟩
      .have:=(V2 hv).2.2;omega
     obtain⟨rfl,_,rfl⟩:=V2 hv;obtain⟨w',hrun,st1,m1⟩:=ZGz (P:=P) (ty:=ty) (cap2:=cap2) m ht ht2 hszB hb hT3 hfit hpos hoff q5 hroom hys;have hb1:(setH h b<|.row sz'<|es++ys)[b]?=some (.row sz'<|es++ys):=by rw[Ks h b _<|ZXU hblt,if_pos rfl]
     obtain⟨st2,m2⟩:=ZGy (off:=off) m1 hb1 (upd_same _ _ _)<|by omega
     have hl2:(setH h b<|.row sz'<|es++ys).length=h.length:=by
      unfold setH;rw[show Nat.blt b h.length=true by simpa using hblt,cond_true,ZXc]
     have e1:setH (setH h b<|.row sz'<|es++ys) b .gone++[.row sz'<|(es++ys).drop off]=setH h b .gone++[.row sz'<|es.drop off++ys]:=by
      rw[(Zzb _ _<|ZXU hblt).1,ZZ9<|by omega]
     rw[e1]at m2;refine⟨_,w',_,.inl<|hs _ _ hrun,st1.trans st2,m2,⟨_,_,_,rfl⟩,sz',(es++ys).length-off,some r',C,B+off,?_,?_,by omega,λ_=>⟨cap,hroom,by omega,λhh=>by simp at hh,.inl ⟨r',rfl,by rw[ZXE]⟩⟩⟩
     .show upd _ _ _ h.length=_
      rw[hl2,upd_same]
     .rw[hlen];omega
    .obtain⟨T1,w1,rv,hrun,st1,m1,hv1⟩:=CY (P:=P) (s:=s) (ty:=ty) (cap:=cap) (cap2:=cap2) (ad:=ad) (bd:=bd) (es:=es.drop off) (ys:=ys) (aid:=h.length) (fz:=false) (rs:=[]) (res:=(.sl h.length (es.drop off++ys).length 0 (es.drop off++ys).length false,[],some (h.length,.row sz'<|es.drop off++ys))) m hX (ZX0 _) hTn h0 ht ht2 hi hsz hby hzv hzs hb0 hes hys (by rw[hdl];exact hbound) (by rw[hdl];omega) (by rw[hdl];exact hs) rfl
     have happ:ZH h (some (h.length,AObj.row sz'<|es.drop off++ys))=h++[.row sz'<|es.drop off++ys]:=by
      show setH h h.length _=_
      unfold setH;rw[show Nat.blt h.length h.length=false by rw[ZY5];intro hh;simp at hh,cond_false]
     have m1':M T1 X (h++[.row sz'<|es.drop off++ys]) w1:=by rw[<-happ];exact m1
     have hb1:(h++[AObj.row sz'<|es.drop off++ys])[b]?=some (.row sz' es):=by rw[ZXK hblt];exact hb
     obtain⟨r1,C1,B1,hT1,_⟩:=XV m1' hb1;obtain⟨st2,m2,_⟩:=ZFG m1' hb1 hT1;have e1:setH (h++[AObj.row sz'<|es.drop off++ys]) b .gone=setH h b .gone++[.row sz'<|es.drop off++ys]:=by
      unfold setH;rw[show Nat.blt b (h++[AObj.row sz'<|es.drop off++ys]).length=true by simp;omega,show Nat.blt b h.length=true by simpa using hblt,cond_true,cond_true,List.set_append_left _ _ hblt]
     rw[e1]at m2;refine⟨_,w1,rv,hrun,st1.trans st2,m2,?_⟩;have e2:len+ys.length=(es.drop off++ys).length:=by rw[ZX7,hdl]
     rw[e2];exact HR st2 _ _ hv1
  .cases he
 .exact other he
def ZGB(c:Ctx E T X h w)(hf:FrR T X w fr a.tmps){o:Oper}{sz bytes:Nat}{s x:Arg}{res:AV×Hp}(hc:Gb P o.op (.app false sz bytes s x)=true)(he:ZE9 h sz bytes (ev E fr s) (ev E fr x)=some res):
 ∃T' w' rv,((execOp a.eval o).run P w=.ok (.value rv) w'\/((execOp a.eval o).run P w=.ok .skip w'/\rv=undef))/\Step T w T' w'/\M T' X res.2 w'/\R T' X w' res.1 rv:=by
 obtain⟨dst,op,ty,pos,aft,gd⟩:=o;have gl:=c.gl;have m:=c.m;have hX:=c.hX;cases op<;>try (simp[Gb]at hc;done)
 case call cl=>
  obtain⟨callee,args,argTypes⟩:=cl;simp only[Gb]at hc;split at hc
  .rename_i s' x' t t2 e2 e3;simp only[ZWT,ZXn]at hc;obtain⟨⟨⟨⟨hi,h2⟩,h3⟩,h4⟩,h5⟩:=hc;have hargs:args = #[s',x']:=by apply ZXV;simpa using e2
   have htys:argTypes = #[t,t2]:=by apply ZXV;simpa using e3
   subst hargs htys;cases hs:isSlice P t with
   |none=>rw[hs]at hi;cases hi
   |some e=>
    rw[hs]at hi;simp only at hi;cases hie:P.info? e with
    |none=>rw[hie]at hi;cases hi
    |some i=>
     rw[hie]at hi;simp only[ZWT,decide_eq_true_eq]at hi;obtain⟨⟨hsz,hby⟩,hz⟩:=hi;cases hzi:i.zero with
     |none=>rw[hzi]at hz;cases hz
     |some zv=>
      rw[hzi]at hz;obtain⟨d,hd⟩:=ZYB.1 h2;have hd2:∀k,d≠.int k:=by
       rintro k rfl;simp[MF,hd]at h3
      exact ZGA (ty:=ty) m hX (KJ hs) ⟨d,hd,hd2⟩ hie hsz hby hzi (of_decide_eq_true hz) (evR gl hf h4) (evR gl hf h5) (λrv w' hr=>by simp[execOp,resolve,invoke,builtin,hr]) he
  .cases hc
end Go.AM
namespace Go.AM
open Go
variable [Dr]
variable {P:Program} {E:Env} {T:Ty} {X:Xt} {w:World} {h:Hp} {fr:Fr} {a:Act}
def Gn(m:M T X h w):T h.length=none:=JR m<|.inl<|by simp
def L0{c:Call}{q:AOp}:Gb P (.defer c) q=false:=by cases q<;>rfl
def Bz{k:Nat}{q:AOper}{fr':Fr}{h':Hp}(hn:q.op.isCall=false)(hw:ZJ fr q.guard=some true)(he:Q5 E (k+1) q fr h=some (fr',h')):
 ∃res,Z8 E fr h h.length q.op=some res/\fr'=ZB fr q.dst res.1/\h'=ZH h res.2.2:=by
 obtain⟨dst,op,g⟩:=q;simp only[Q5,hw]at he;cases op<;>first
  |(simp[AOp.isCall]at hn;done)
  |(simp only[ZXi,Prod.mk.injEq]at he
    obtain⟨res,h1,h2,h3⟩:=he;exact⟨res,h1,h2.symm,h3.symm⟩)
def BA{k:Nat}(ih:AllOk P E k){q:AOper}{fr':Fr}{h':Hp}(he:Q5 E (k+1) q fr h=some (fr',h')){N:Nat}{ops:Array Oper}{o:Oper}{base sz:Nat}{ro:Option Nat}{n:Nat}
 (hcr:X.cr=Chk P) (hN:N<=sz) (hc:X6 P N ops o q=true) (s:St E T X h w fr base sz a) (next:Act->World->Prop) (Q:Exit->Act->World->Prop)
 (hn:∀T' a' w',Step T w T' w'->St E T' X h' w' fr' base sz a'->next a' w'):
 if Region.wanted o (yielded ops a.tmps)=true then o.wpIn (Qa ro) n P a w next Q else(∀f,o.about P w a.eval=some f->(Qa ro).fn f)/\next (a.put o.dst undef) w:=by
 simp only[X6,ZWT]at hc;obtain⟨⟨hd,hg⟩,hop⟩:=hc;have hNs:N<=a.tmps.size:=by rw[s.sz];exact hN
 cases hw:ZJ fr q.guard with
 |none=>simp[Q5,hw]at he
 |some b=>
  rw[MM s.f hNs hg hw];cases b with
  |false=>
   simp only[Q5,hw,Option.some.injEq,Prod.mk.injEq]at he;obtain⟨rfl,rfl⟩:=he;rw[if_neg<|by simp]
   exact⟨λ_ _=>VK _ _,hn T _ w (.refl _ _)<|Gi s hN hd (.refl _ _) s.c.m ⟨#[],rfl,rfl⟩⟩
  |true=>
   rw[if_pos rfl];refine⟨λ_ _=>VK _ _,?_⟩
   have hput:∀{v:AV}{rv:Value}{T':Ty}{w':World}{h2:Hp},fr'=ZB fr q.dst v->h'=h2->Step T w T' w'->M T' X h2 w'->R T' X w' v rv->next (a.put o.dst rv) w':=by
    rintro v rv T' w' h2 rfl rfl st m hv;exact hn T' _ w' st<|Gi s hN hd st m hv
   cases hcall:q.op.isCall with
   |false=>
    have hop:Gb P o.op q.op=true:=by
     obtain⟨dst,op,gd⟩:=q;cases op<;>first|exact hop|cases hcall
    obtain⟨res,h1,h2,h3⟩:=Bz hcall hw he;have hnd:∀c,o.op≠.defer c:=λc e=>by rw[e,L0]at hop;cases hop
    rw[Oper.semAt_eq _ _ _ hnd];obtain⟨T',w',rv,hrun,st,m',hv⟩:=MZ s.c s.f (ZX0 _) (Gn s.c.m) hop h1;rcases hrun with hrun|⟨hrun,rfl⟩
    .rw[hrun];exact hput h2 h3 st m' hv
    .rw[hrun];exact hput h2 h3 st m' hv
   |true=>
    obtain⟨dst,op,gd⟩:=q;cases op<;>try (simp[AOp.isCall]at hcall;done)
    case apa sz1 bytes x1 x2=>
     simp only[Q5,hw,ZXi,Prod.mk.injEq]at he;obtain⟨⟨v,h2⟩,h1,h3,h4⟩:=he;have hop:Gb P o.op (.app false sz1 bytes x1 x2)=true:=hop;have hnd:∀c,o.op≠.defer c:=λc e=>by rw[e,L0]at hop;cases hop
     rw[Oper.semAt_eq _ _ _ hnd];obtain⟨T',w',rv,hrun,st,m',hv⟩:=ZGB s.c s.f hop h1;rcases hrun with hrun|⟨hrun,rfl⟩
     .rw[hrun];exact hput h3.symm h4.symm st m' hv
     .rw[hrun];exact hput h3.symm h4.symm st m' hv
    case call p f args=>
     have hop:Wx o.op (.call p f args)=true:=hop;simp only[Q5,hw,ZXi,Prod.mk.injEq]at he;obtain⟨⟨v,h2⟩,h1,h3,h4⟩:=he;cases ho:o.op<;>rw[ho]at hop<;>try (simp[Wx]at hop;done)
     next c=>
     simp only[Wx,ZWT]at hop;obtain⟨hcal,hargs⟩:=hop;rw[Oper.semAt_eq _ _ _<|λc e=>by rw[ho]at e;cases e]
     have hcal':c.callee=.value (.func f):=by
      split at hcal
      .next g hcl=>rw[hcl];simp at hcal;rw[hcal]
      .cases hcal
     have hrun:(execOp a.eval o).run P w=(callFunc f<|(#[]++c.args.map a.eval)++#[]).run P w:=by
      simp only[execOp,ho,resolve,hcal',Act.eval,Deferred.ofValue,Sem.run_bind,Sem.run_pure,Result.andThen_ok,invoke]
     rw[hrun];have hr:=VF (a:=a) s.c.gl s.f hargs;have:=ih.call p f _ h v h2 h1 T X w ((#[]++c.args.map a.eval)++#[]) hcr s.c<|by simpa using hr
     refine this.upon ?_;rintro rv w' ⟨T',st,m',hv⟩;exact hput h3.symm h4.symm st m' hv
    case callv p x args=>
     have hop:Wx o.op (.callv p x args)=true:=hop;simp only[Q5,hw,ZXi,Prod.mk.injEq]at he;obtain⟨⟨v,h2⟩,h1,h3,h4⟩:=he;cases ho:o.op<;>rw[ho]at hop<;>try (simp[Wx]at hop;done)
     next c=>
     simp only[Wx,ZWT]at hop;obtain⟨hcal,hargs⟩:=hop;rw[Oper.semAt_eq _ _ _<|λc e=>by rw[ho]at e;cases e]
     split at hcal
     .next y hcl=>
      have hrun:(execOp a.eval o).run P w=(do let d <-Deferred.ofValue (a.eval y) (c.args.map a.eval);invoke d.target d.args:Sem Next).run P w:=by
       simp only[execOp,ho,resolve,hcl]
      rw[hrun];have hr:=VF (a:=a) s.c.gl s.f hargs;have:=ih.callv p _ _ h v h2 h1 T X w (a.eval y) (c.args.map a.eval) hcr s.c (evR s.c.gl s.f hcal)<|by simpa using hr
      refine this.upon ?_;rintro rv w' ⟨T',st,m',hv⟩;exact hput h3.symm h4.symm st m' hv
     .cases hcal
def St.withFr{fr2:Fr}{base sz:Nat}(s:St E T X h w fr base sz a)(hf:FrR T X w fr2 a.tmps):St E T X h w fr2 base sz a:=⟨s.c,hf,s.sz,s.marks,s.base⟩
def BB{k:Nat}(ih:AllOk P E k){qs:List AOper}{fr':Fr}{h':Hp}(he:ZS E (k+1) qs fr h=some (fr',h')){N:Nat}{ops:Array Oper}{os:List Oper}{base sz:Nat}{ro:Option Nat}{n:Nat}
 (hcr:X.cr=Chk P) (hN:N<=sz) (hc:X7 P N ops os qs=true) (s:St E T X h w fr base sz a) (Q:Exit->Act->World->Prop)
 (hq:∀T' a' w',Step T w T' w'->St E T' X h' w' fr' base sz a'->Q .normal a' w'):wpListIn (Qa ro) n P ops Q os a w:=by
 cases qs with
 |nil=>
  cases os with
  |cons _ _=>simp[X7]at hc
  |nil=>
   simp only[ZS,Option.some.injEq,Prod.mk.injEq]at he;obtain⟨rfl,rfl⟩:=he;exact hq T a w (.refl _ _) s
 |cons q qs=>
  cases os with
  |nil=>simp[X7]at hc
  |cons o os=>
   simp only[X7,ZWT]at hc;simp only[ZS]at he;split at he
   .next fr1 h1 he1=>
    refine wpListIn_step λK hK=>?_
    refine ih.op q fr h fr1 h1 he1 T X w a N ops o base sz ro n hcr hN hc.1 s K Q ?_;intro T1 a1 w1 st1 s1;refine hK _ _<|ih.ops qs fr1 h1 fr' h' he T1 X w1 a1 N ops os base sz ro n hcr hN hc.2 s1 Q ?_;intro T2 a2 w2 st2 s2;exact hq T2 a2 w2 (st1.trans st2) s2
   .cases he
end Go.AM
namespace Go.AM
open Go
variable [Dr]
variable {P:Program} {E:Env} {T:Ty} {X:Xt} {w:World} {h:Hp} {fr:Fr} {a:Act}
def L3(live:List Nat)(fr:Fr)(t:Nat):get (Z2 live fr) t=if t∈live then get fr t else .bot:=by
 unfold Z2;induction live with
 |nil=>rfl
 |cons d r ih=>
  simp only[ZX3,get];by_cases e:d=t
  .subst e;simp
  .have hb:(d==t)=false:=by simpa using e
   rw[hb,cond_false,ih];have:t≠d:=λe2=>e e2.symm
   simp[this]
def L4{live:List Nat}{tmps:Array Value}(hf:FrR T X w fr tmps):FrR T X w (Z2 live fr) tmps:=by
 intro t;rw[L3];split
 .exact hf t
 .trivial
def L5{k:Nat}(ih:AllOk P E k){live:List Nat}{q:ACode}{e:AExit}{fr':Fr}{h':Hp}(he:Ze E (k+1) (.loop live q) fr h=some (e,fr',h')){N:Nat}{c:Code}{base sz:Nat}{rd:Bool}{ro:Option Nat}{n:Nat}
 (hcr:X.cr=Chk P) (hN:N<=sz) (hc:QZ P N rd c q=true) (hro:rd=false->ro=none) (s:St E T X h w fr base sz a) (Q:Exit->Act->World->Prop)
 (hq:∀T' a' w',Step T w T' w'->St E T' X h' w' fr' base sz a'->Q (exR e) a' w'):Code.roundsIn (Qa ro) n P c Q (k+1) a w:=by
 simp only[Ze]at he;rw[roundsIn_succ];cases hb:Ze E k q (Z2 live fr) h with
 |none=>rw[hb]at he;cases he
 |some r=>
  obtain⟨e1,fr1,h1⟩:=r;rw[hb]at he;refine ih.code q (Z2 live fr) h e1 fr1 h1 hb T X w a N c base sz rd ro n hcr hN hc hro (s.withFr<|L4 s.f) _ ?_;intro T1 a1 w1 st1 s1;cases e1 with
  |normal=>exact ih.rounds live q fr1 h1 e fr' h' he T1 X w1 a1 N c base sz rd ro n hcr hN hc hro s1 Q<|λT2 a2 w2 st2 s2=>hq T2 a2 w2 (st1.trans st2) s2
  |exit id=>cases he;exact hq T1 a1 w1 st1 s1
  |ret=>cases he;exact hq T1 a1 w1 st1 s1
def Ro{T:Ty}{b:Nat}{c:TC}(hT:T b=some c):upd T b c=T:=by
 funext x
 by_cases e:x=b
 .subst e;rw[upd_same,hT]
 .rw[upd_ne _ _ e]
def KQ(m:M T X h w){b l:Nat}{lst lst':LoopState}{pend pend':AExit}{ps:List Nat}{as bd:ACode}(hb:h[b]?=some (.loop lst pend fr ps as bd))(hT:T b=some (.loop l)):
 ∃L:Loop,w.heap[l]?=some (.loop L)/\L.state=lst/\L.pending=XU pend/\L.params.toList=ps/\FrR T X w fr L.tmps/\X.cr L.tmps.size L.assign as/\X.cr L.tmps.size L.body bd/\(∀p∈ps,p<L.tmps.size)/\
  Step T w T (w.putObj l<|.loop {L with state:=lst',pending:=XU pend'})/\M T X (setH h b<|.loop lst' pend' fr ps as bd) (w.putObj l<|.loop {L with state:=lst',pending:=XU pend'}):=by
 obtain⟨l2,hT2,L,q1,q2,q3,q4,q5,q6,q7,q8⟩:=Cf m hb;rw[hT]at hT2;cases hT2;have hlt:l<w.heap.size:=(ZXN.1 q1).1;have hoth:∀x o,x≠l->(w.putObj l o).heap[x]?=w.heap[x]?:=λx o hx=>World.putObj_heap_other hx
 have hself:∀o,(w.putObj l o).heap[l]?=some o:=λo=>by simp[World.putObj,hlt]
 have hrng:T.rng l:=⟨b,_,hT,rfl⟩;have st:∀o,Step T w T (w.putObj l o):=λo=>
  ⟨rfl,rfl,rfl,by simp[World.putObj],λx c hx=>⟨c,hx,.refl c⟩,λx _ hr=>hoth x o<|λe=>hr<|e▸hrng,λx hx=>.inl hx,λ_=>ZX0 _⟩
 refine⟨L,q1,q2,q3,q4,q5,q6,q7,q8,st _,?_⟩;have hlen:b<h.length:=(ZXg.1 hb).1;have:=WZ m b (.loop lst' pend' fr ps as bd) (.loop l) (ZXU hlen) (w':=w.putObj l<|.loop {L with state:=lst',pending:=XU pend'}) (by rw[Ro hT];exact st _)
  (λb' c' r' hne h1 h2=>hoth r' _<|λe=>hne<|m.inj b' c' b _ r' h1 hT h2<|by rw[e];rfl)
  (λr hr=>by
   cases hr;exact⟨by simpa[World.putObj]using hlt,m.notX _ hrng,λb' c' hne h1 h2=>hne<|m.inj b' c' b _ _ h1 hT h2 rfl⟩)
  ⟨_,hself _,rfl,rfl,q4,by rw[Ro hT];exact Kr (st _) q5,q6,q7,q8⟩
 rw[Ro hT]at this;exact this
def BC:∀{ps:List Nat}{args:List AV}{fr fr0:Fr}{tmps:Array Value}{rargs:List Value},WY ps args fr=some fr0->FrR T X w fr tmps->Rs T X w args rargs->(∀p∈ps,p<tmps.size)->
 FrR T X w fr0 ((ps.zip rargs).foldl (λt x=>t.setIfInBounds x.1 x.2) tmps)/\((ps.zip rargs).foldl (λt x=>t.setIfInBounds x.1 x.2) tmps).size=tmps.size/\ps.length=args.length:=by
 intro ps;induction ps with
 |nil=>
  intro args fr fr0 tmps rargs hs hf hr hp;cases args with
  |cons _ _=>simp[WY]at hs
  |nil=>
   simp only[WY,Option.some.injEq]at hs;subst hs;exact⟨hf,rfl,rfl⟩
 |cons p ps ih=>
  intro args fr fr0 tmps rargs hs hf hr hp;cases args with
  |nil=>simp[WY]at hs
  |cons v vs=>
   simp only[WY]at hs;obtain⟨u,ur,rfl,h1,h2⟩:=hr;obtain⟨q1,q2,q3⟩:=ih hs (ML hf h1<|hp p<|by simp) h2<|λx hx=>by rw[ZZd];exact hp x<|by simp[hx]
   refine⟨q1,?_,by simp[q3]⟩
   rw[List.zip_cons_cons,ZYe,q2,ZZd]
def Rp{T':Ty}{w':World}(st:Step T w T' w'){b l:Nat}(hT:T b=some (.loop l)):T' b=some (.loop l):=by
 obtain⟨c',h1,h2⟩:=st.le b _ hT;cases c' with
 |loop r=>rw[h1];cases h2;rfl
 |_=>exact h2.elim
def BD{k:Nat}(ih:AllOk P E k){b:Nat}{args:List AV}{v:AV}{h':Hp}(he:YG E (k+1) b args h=some (v,h'))(rargs:Array Value)(l:Nat)(hcr:X.cr=Chk P)(c:Ctx E T X h w)(hr:Rs T X w args rargs.toList)(hT:T b=some (.loop l)):
 YI P ((Instr.yield l rargs).run P w) w (Yq T X w h' v):=by
 simp only[YG]at he;split at he
 .next fr ps assign body hb=>
  split at he
  .next fr0 hsp=>
   split at he
   .next fr1 h1 hrun1=>
    split at he
    .next fr' ps' assign' body' hb1=>
     split at he
     .next e fr2 h2 hrun2=>
      split at he
      .next st2 pend2 fr3 ps3 as3 bd3 hb2=>
       obtain⟨L,hL,hst,hpend,hps,hfr,hca,hcb,hlt,_,_⟩:=KQ (lst':=.ready) (pend':=.normal) c.m hb hT;obtain⟨q1,q2,q3⟩:=BC hsp hfr hr hlt;have hsz:rargs.size=L.params.size:=by
        have e1:=Qr hr;have e2:L.params.size=ps.length:=by rw[<-hps];simp
        have e3:rargs.size=rargs.toList.length:=by simp
        omega
       refine .inr<|.inr ⟨l,_,_,_,_,run_yield hL hsz,λn ro=>?_⟩
       have htm:(L.params.zip rargs).foldl (λtmps x=>match x with|(t,a)=>tmps.setIfInBounds t a) L.tmps=(ps.zip rargs.toList).foldl (λt x=>t.setIfInBounds x.1 x.2) L.tmps:=by
        rw[<-Array.foldl_toList,Array.toList_zip,hps]
       rw[htm];have hca':Chk P L.tmps.size L.assign assign:=by rw[<-hcr];exact hca
       have hcb':Chk P L.tmps.size L.body body:=by rw[<-hcr];exact hcb
       obtain⟨N,hN,hchk⟩:=hca';obtain⟨N2,hN2,hchk2⟩:=hcb';refine roundIn_of_wpIn (VK _ _) ?_;rw[Bg];have s0:St E T X h w fr0 w.heap.size L.tmps.size {tmps:=(ps.zip rargs.toList).foldl (λt x=>t.setIfInBounds x.1 x.2) L.tmps,defers:=[]}:=
        ⟨c,q1,q2,⟨[],rfl,ZYT,by simp⟩,ZX0 _⟩
       refine ih.code assign fr0 h .normal fr1 h1 hrun1 T X w _ N L.assign w.heap.size L.tmps.size true (some l) n hcr hN hchk (λhh=>by cases hh) s0 _ ?_
       intro T1 a1 w1 st1 s1;obtain⟨L1,hL1,hst1,hpend1,_,_,_,_,_,stb,mb⟩:=KQ (lst':=.busy) (pend':=.normal) s1.c.m hb1<|Rp st1 hT;refine⟨_,run_beginRound hL1 hst1,?_⟩;have hLb:({L1 with state:=.busy}:Loop)={L1 with state:=.busy,pending:=XU .normal}:=by rw[<-hpend1]
       rw[hLb];have s2:St E T1 X (setH h1 b<|.loop .busy .normal fr' ps' assign' body') (w1.putObj l<|.loop {L1 with state:=.busy,pending:=XU .normal}) fr1 w.heap.size L.tmps.size a1:=
        ⟨s1.c.step stb mb,Kr stb s1.f,s1.sz,s1.marks.step stb,ZXG s1.base stb.size⟩
       refine ih.code body fr1 _ e fr2 h2 hrun2 T1 X _ a1 N2 L.body w.heap.size L.tmps.size true (some l) n hcr hN2 hchk2 (λhh=>by cases hh) s2 _ ?_
       intro T2 a2 w2 st2' s2';have hT2:T2 b=some (.loop l):=Rp (st1.trans<|stb.trans st2') hT;cases e with
       |normal=>
        cases he;obtain⟨L2,hL2,_,_,_,_,_,_,_,ste,me⟩:=KQ (lst':=.ready) (pend':=.normal) s2'.c.m hb2 hT2;exact⟨_,_,run_endRound none hL2,_,rfl,T2,st1.trans<|stb.trans<|st2'.trans ste,me,rfl⟩
       |exit id=>
        cases he;obtain⟨L2,hL2,_,_,_,_,_,_,_,ste,me⟩:=KQ (lst':=.done) (pend':=.exit id) s2'.c.m hb2 hT2;exact⟨_,_,run_endRound (some<|.exit id) hL2,_,rfl,T2,st1.trans<|stb.trans<|st2'.trans ste,me,rfl⟩
       |ret=>
        cases he;obtain⟨L2,hL2,_,_,_,_,_,_,_,ste,me⟩:=KQ (lst':=.done) (pend':=.ret) s2'.c.m hb2 hT2;exact⟨_,_,run_endRound (some .ret) hL2,_,rfl,T2,st1.trans<|stb.trans<|st2'.trans ste,me,rfl⟩
      .cases he
     .cases he
    .cases he
   .cases he
  .cases he
 .cases he
end Go.AM
namespace Go.AM
open Go
variable [Dr]
variable {P:Program} {E:Env} {T:Ty} {X:Xt} {w:World} {h:Hp} {fr:Fr} {a:Act}
mutual
def Rq(n:Nat):(v:AV)->Zy v=true->bel n v=true
 | .bot,_=>rfl
 | .bool _,_=>rfl
 | .int _ _,_=>rfl
 | .str _,_=>rfl
 | .nilp,_=>rfl
 | .nilsl,_=>rfl
 | .nilmap,_=>rfl
 | .nilfn,_=>rfl
 | .nilif,_=>rfl
 | .agg cs,h=>by simp only[bel];exact Wz n cs h
 | .tup cs,h=>by simp only[bel];exact Wz n cs h
 | .iptr _ _,_=>rfl
 | .isl _ _ _ _,_=>rfl
 | .imap _ _ _,_=>rfl
 | .ifc _ v,h=>by simp only[bel];exact Rq n v h
 | .clo _ f c,h=>by
  simp only[Zy,ZWT]at h;simp only[bel,Wz n f h.1,Wz n c h.2,ZX8]
 | .ptr _ _ _ _,h=>by simp[Zy]at h
 | .sl _ _ _ _ _,h=>by simp[Zy]at h
 | .mp _,h=>by simp[Zy]at h
 | .it _,h=>by simp[Zy]at h
 | .yld _,h=>by simp[Zy]at h
def Wz(n:Nat):(vs:List AV)->Zi vs=true->Zd n vs=true
 |[],_=>rfl
 |v::r,h=>by
  simp only[Zi,ZWT]at h;simp only[Zd,Rq n v h.1,Wz n r h.2,ZX8]
end
structure Cut(n:Nat)(T T2:Ty):Prop where
 lo:∀b,b<n->T2 b=T b
 hi:∀b,n<=b->T2 b=none
def Cut.rng{n:Nat}{T T2:Ty}(k:Cut n T T2){r:Nat}(hr:T2.rng r):T.rng r:=by
 obtain⟨b,c,h1,h2⟩:=hr;rcases ZY9 b n with hb|hb
 .exact⟨b,c,by rw[<-k.lo b hb];exact h1,h2⟩
 .rw[k.hi b hb]at h1;cases h1
mutual
def KR{n:Nat}{T T2:Ty}(k:Cut n T T2):(v:AV)->(rv:Value)->bel n v=true->R T X w v rv->R T2 X w v rv
 | .bot,_,_,_=>trivial
 | .bool _,_,_,h=>h
 | .int _ _,_,_,h=>h
 | .str _,_,_,h=>h
 | .nilp,_,_,h=>h
 | .nilsl,_,_,h=>h
 | .nilmap,_,_,h=>h
 | .nilfn,_,_,h=>h
 | .nilif,_,_,h=>h
 | .agg cs,v,hn,h=>by
  obtain⟨vs,rfl,h⟩:=h;exact⟨vs,rfl,WA k cs _ (by simpa only[bel]using hn) h⟩
 | .tup cs,v,hn,h=>by
  obtain⟨vs,rfl,h⟩:=h;exact⟨vs,rfl,WA k cs _ (by simpa only[bel]using hn) h⟩
 | .iptr bw cs,v,hn,h=>by
  obtain⟨r,o,rfl,q1,q2,q3,q4,q5⟩:=h;exact⟨r,o,rfl,λhr=>q1<|k.rng hr,q2,q3,q4,Rr k r cs o (Wz n cs<|V6 q3) q5⟩
 | .isl bw ex sz es,v,hn,h=>by
  obtain⟨ad,len,cap,rfl,q1,q2,q3,q4,q5⟩:=h;refine⟨ad,len,cap,rfl,q1,q2,q3,q4,?_⟩;rcases q5 with q5|⟨r,o,q6,q7,q8,q9,q10⟩
  .exact .inl q5
  .exact .inr ⟨r,o,q6,λhr=>q7<|k.rng hr,q8,q9,Gp k sz r es o (Wz n es<|V6 q4) q10⟩
 | .imap bw ks vs,v,hn,h=>by
  obtain⟨r,es,clock,l,rfl,q1,q2,q3,q4,q5,q6,q7,q8⟩:=h;exact⟨r,es,clock,l,rfl,λhr=>q1<|k.rng hr,q2,q3,q4,q5,q6,WA k ks _ (Wz n ks<|V6 q3.1) q7,WA k vs _ (Wz n vs<|V6 q3.2) q8⟩
 | .ifc t x,v,hn,h=>by
  obtain⟨u,rfl,h⟩:=h;exact⟨u,rfl,KR k x u (by simpa only[bel]using hn) h⟩
 | .clo fn first cap,v,hn,h=>by
  obtain⟨f,c,rfl,q1,q2⟩:=h;simp only[bel,ZWT]at hn;exact⟨f,c,rfl,WA k first _ hn.1 q1,WA k cap _ hn.2 q2⟩
 | .ptr b _ _ _,_,hn,h=>by
  simp only[bel,ZXT]at hn;simp only[R,k.lo b hn];exact h
 | .sl b _ _ _ _,_,hn,h=>by
  simp only[bel,ZXT]at hn;simp only[R,k.lo b hn];exact h
 | .mp b,_,hn,h=>by
  simp only[bel,ZXT]at hn;simp only[R,k.lo b hn];exact h
 | .it b,_,hn,h=>by
  simp only[bel,ZXT]at hn;simp only[R,k.lo b hn];exact h
 | .yld b,_,hn,h=>by
  simp only[bel,ZXT]at hn;simp only[R,k.lo b hn];exact h
def WA{n:Nat}{T T2:Ty}(k:Cut n T T2):(vs:List AV)->(rs:List Value)->Zd n vs=true->Rs T X w vs rs->Rs T2 X w vs rs
 |[],_,_,h=>h
 |a::as,vs,hn,h=>by
  obtain⟨v,vr,rfl,q1,q2⟩:=h;simp only[Zd,ZWT]at hn;exact⟨v,vr,rfl,KR k a v hn.1 q1,WA k as vr hn.2 q2⟩
def Rr{n:Nat}{T T2:Ty}(k:Cut n T T2)(r:Nat):(cs:List AV)->(o:Nat)->Zd n cs=true->ZV T X w r cs o->ZV T2 X w r cs o
 |[],_,_,_=>trivial
 |a::as,o,hn,h=>by
  obtain⟨⟨v,q1,q2⟩,q3⟩:=h;simp only[Zd,ZWT]at hn;exact⟨⟨v,q1,KR k a v hn.1 q2⟩,Rr k r as (o+1) hn.2 q3⟩
def Gp{n:Nat}{T T2:Ty}(k:Cut n T T2)(sz r:Nat):(cs:List AV)->(o:Nat)->Zd n cs=true->ZA T X w sz r cs o->ZA T2 X w sz r cs o
 |[],_,_,_=>trivial
 |a::as,o,hn,h=>by
  simp only[Zd,ZWT]at hn;cases a with
  |agg cs=>
   obtain⟨q1,q2,q3⟩:=h;exact⟨q1,Rr k r cs o (by simpa only[bel]using hn.1) q2,Gp k sz r as (o+sz) hn.2 q3⟩
  |_=>
   obtain⟨q1,⟨v,q2,q3⟩,q4⟩:=h;exact⟨q1,⟨v,q2,KR k _ v hn.1 q3⟩,Gp k sz r as (o+sz) hn.2 q4⟩
end
def BE{n:Nat}:∀{vs:List AV},Zd n vs=true->∀v∈vs,bel n v=true:=by
 intro vs;induction vs with
 |nil=>intro _ v hv;cases hv
 |cons a r ih=>
  intro hb v hv;simp only[Zd,ZWT]at hb;rcases ZXv.1 hv with rfl|hv
  .exact hb.1
  .exact ih hb.2 v hv
def get_mem:∀{fr:Fr}{t:Nat},get fr t=.bot\/get fr t∈fr.map (·.2):=by
 intro fr;induction fr with
 |nil=>intro t;exact .inl rfl
 |cons p r ih=>
  intro t;obtain⟨d,v⟩:=p;simp only[get];cases hd:(d==t)with
  |true=>right;simp
  |false=>
   rcases ih (t:=t)with h1|h1
   .exact .inl h1
   .exact .inr<|by simp only[cond_false,ZX3,ZXv];exact .inr h1
def L6{n:Nat}{T2:Ty}(k:Cut n T T2){tmps:Array Value}(hb:Zd n (fr.map (·.2))=true)(hf:FrR T X w fr tmps):FrR T2 X w fr tmps:=by
 intro t;refine KR k _ _ ?_<|hf t;rcases get_mem (fr:=fr) (t:=t)with h1|h1
 .rw[h1];rfl
 .exact BE hb _ h1
def BF{n:Nat}:∀{os:List AObj},X4 n os=true->∀(b:Nat)(o:AObj),os[b]?=some o->Zj n o=true:=by
 intro os;induction os with
 |nil=>intro _ b o hb;simp at hb
 |cons o' r ih=>
  intro hb b o ho;simp only[X4,ZWT]at hb;cases b with
  |zero=>simp at ho;subst ho;exact hb.1
  |succ b=>exact ih hb.2 b o<|by simpa using ho
def BG{n:Nat}{T2:Ty}(k:Cut n T T2){o:Option AObj}{c:Option TC}(hb:∀x,o=some x->Zj n x=true)(hh:YR T X w o c):YR T2 X w o c:=by
 cases o with
 |none=>cases c<;>exact hh
 |some o=>
  have hb:=hb o rfl;cases o with
  |dead=>cases c<;>exact hh
  |gone=>
   cases c with
   |none=>exact hh
   |some c=>
    cases c with
    |row _ _ r _ _=>cases r<;>exact hh
    |map _=>exact hh
    |iter _=>exact hh
    |loop _=>exact hh
  |iter s p=>cases c with
   |none=>exact hh
   |some c=>cases c<;>exact hh
  |row sz es=>
   cases c with
   |none=>exact hh
   |some c=>
    cases c with
    |row sz' g r C B=>
     obtain⟨rfl,h1,h2,h3,h4⟩:=hh;refine⟨rfl,h1,h2,h3,?_⟩;cases r with
     |none=>exact h4
     |some r=>
      obtain⟨cs,el,q1,q2,q3⟩:=h4;exact⟨cs,el,q1,q2,Gp k _ _ _ _ (by simpa only[Zj]using hb) q3⟩
    |map _=>exact hh
    |iter _=>exact hh
    |loop _=>exact hh
  |map ks vs=>
   cases c with
   |none=>exact hh
   |some c=>
    cases c with
    |map r=>
     obtain⟨es,clock,l,q1,q2,q3,q4,q5⟩:=hh;simp only[Zj,ZWT]at hb;exact⟨es,clock,l,q1,q2,q3,WA k _ _ hb.1 q4,WA k _ _ hb.2 q5⟩
    |row _ _ _ _ _=>exact hh
    |iter _=>exact hh
    |loop _=>exact hh
  |loop st pend fr ps as bd=>
   cases c with
   |none=>exact hh
   |some c=>
    cases c with
    |loop r=>
     obtain⟨L,q1,q2,q3,q4,q5,q6⟩:=hh;exact⟨L,q1,q2,q3,q4,L6 k (by simpa only[Zj]using hb) q5,q6⟩
    |row _ _ _ _ _=>exact hh
    |iter _=>exact hh
    |map _=>exact hh
def BH{n:Nat}{T2:Ty}(k:Cut n T T2)(m:M T X h w)(hb:X4 n (h.take n)=true):M T2 X (h.take n) w where
 inj b c b' c' r h1 h2 h3 h4:=by
  rcases ZY9 b n with hb|hb
  .rcases ZY9 b' n with hb'|hb'
   .exact m.inj b c b' c' r (by rw[<-k.lo b hb];exact h1) (by rw[<-k.lo b' hb'];exact h2) h3 h4
   .rw[k.hi b' hb']at h2;cases h2
  .rw[k.hi b hb]at h1;cases h1
 lt r hr:=m.lt r<|k.rng hr
 notX r hr:=m.notX r<|k.rng hr
 obj b:=by
  rcases ZY9 b n with hlt|hge
  .rw[ZYu hlt,k.lo b hlt];refine BG k ?_<|m.obj b;intro x hx;exact BF hb b x<|by rw[ZYu hlt];exact hx
  .rw[k.hi b hge,ZXQ<|by simp;omega]
   trivial
def Gq(n:Nat)(T:Ty):Ty:=λb=>if b<n then T b else none
def BI(n:Nat)(T:Ty):Cut n T (Gq n T):=⟨λb hb=>by simp[Gq,hb],λb hb=>by simp[Gq];omega⟩
def Step.cut{n:Nat}{T' T2:Ty}{w':World}(st:Step T w T' w')(k:Cut n T' T2)(hT:∀b c,T b=some c->b<n):Step T w T2 w':=
 ⟨st.os,st.tape,st.output,st.size,λb c hb=>by
  obtain⟨c',h1,h2⟩:=st.le b c hb;exact⟨c',by rw[k.lo b<|hT b c hb];exact h1,h2⟩,st.keep,λb hb=>st.rng b<|k.rng hb,st.drawn⟩
def BJ{n:Nat}{T2:Ty}(k:Cut n T T2){D:Nat}(hd:Wn T w D):Wn T2 w D:=⟨hd.1,λhr=>hd.2.1<|k.rng hr,hd.2.2⟩
def BK{T1:Ty}{w1:World}{h1:Hp}{fr1:Fr}{a1:Act}{base sz:Nat}(m:M T X h w)(gl:∀g,clean (E.gl g)=true)(st:Step T w T1 w1)(s:St E T1 X h1 w1 fr1 base sz a1):
 ∃T2,Step T w T2 w1/\St E T2 X (Xq h.length fr1 h1) w1 fr1 base sz a1:=by
 unfold Xq;cases hb:(Zd h.length (fr1.map (·.2))&&X4 h.length (h1.take h.length))with
 |false=>exact⟨T1,st,s⟩
 |true=>
  simp only[ZWT]at hb;have k:=BI h.length T1;refine⟨Gq h.length T1,st.cut k ?_,⟨BH k s.c.m hb.2,λg=>⟨KR k _ _ (Rq _ _<|KK _<|gl g) (s.c.gl g).1,(s.c.gl g).2⟩,s.c.hX⟩,L6 k hb.1 s.f,s.sz,?_,s.base⟩
  .intro b c hbc;rcases ZY9 b h.length with hx|hx
   .exact hx
   .rw[JR m<|.inl<|ZXQ hx]at hbc;cases hbc
  .obtain⟨rs,q1,q2,q3⟩:=s.marks;exact⟨rs,q1,q2,λr hr=>⟨(q3 r hr).1,BJ k (q3 r hr).2⟩⟩
end Go.AM
namespace Go.AM
open Go
variable [Dr]
variable {P:Program} {E:Env} {T:Ty} {X:Xt} {w:World} {h:Hp} {fr:Fr} {a:Act}
def BL(c:Ctx E T X h w)(hf:FrR T X w fr a.tmps)(fn:FuncId){params:Array Tmp}{assign body:Code}{ps:List Nat}{as bd:ACode}(hps:params.toList=ps)(hlt:∀p∈ps,p<a.tmps.size)
 (hca:X.cr a.tmps.size assign as) (hcb:X.cr a.tmps.size body bd):
 let w1:=(w.alloc<|.deferred<|some []).alloc (.loop {state:=.ready,pending:=none,fn,tmps:=a.tmps,params,assign,body,defers:=w.heap.size})
 Step T w (upd T h.length<|.loop<|w.heap.size+1) w1/\M (upd T h.length<|.loop<|w.heap.size+1) X (h++[.loop .ready .normal fr ps as bd]) w1/\Wn (upd T h.length<|.loop<|w.heap.size+1) w1 w.heap.size:=by
 intro w1;have hT:T h.length=none:=Gn c.m;have st1:=UT T w<|.deferred<|some [];have m1:M T X h (w.alloc<|.deferred<|some []):=Xr c.m st1<|λr hr=>alloc_old w _<|c.m.lt r hr
 have hsz:(w.alloc<|.deferred<|some []).heap.size=w.heap.size+1:=World.size_alloc _ _;have hX1:∀r,X r->r<(w.alloc<|.deferred<|some []).heap.size:=λr hr=>by have:=c.hX r hr;omega
 have st2:=VD T (w.alloc<|.deferred<|some []) (.loop {state:=.ready,pending:=none,fn,tmps:=a.tmps,params,assign,body,defers:=w.heap.size}) h.length (.loop<|w.heap.size+1) hT
  (λr hr=>by cases hr;exact hsz.symm)
 have hnew:w1.heap[w.heap.size+1]?=some (.loop {state:=.ready,pending:=none,fn,tmps:=a.tmps,params,assign,body,defers:=w.heap.size}):=by
  have:=Wo (w.alloc<|.deferred<|some [])<|.loop {state:=.ready,pending:=none,fn,tmps:=a.tmps,params,assign,body,defers:=w.heap.size}
  rw[hsz]at this;exact this
 refine⟨st1.trans st2,?_,?_⟩
 .have:=JQ m1 hX1 h.length (.loop .ready .normal fr ps as bd) (.loop<|w.heap.size+1) (.loop {state:=.ready,pending:=none,fn,tmps:=a.tmps,params,assign,body,defers:=w.heap.size}) (ZX0 _) hT
   (λr hr=>by cases hr;exact hsz.symm) ⟨_,hnew,rfl,rfl,hps,Kr (st1.trans st2) hf,hca,hcb,hlt⟩
  have e:setH h h.length (.loop .ready .normal fr ps as bd)=h++[.loop .ready .normal fr ps as bd]:=by
   unfold setH;have:Nat.blt h.length h.length=false:=by rw[ZY5];intro hh;simp at hh
   rw[this,cond_false]
  rw[e]at this;exact this
 .refine⟨?_,?_,?_⟩
  .show w.heap.size<w1.heap.size
   have:w1.heap.size=w.heap.size+1+1:=by rw[World.size_alloc,hsz]
   omega
  .rintro⟨b',c',h1,h2⟩;by_cases e:b'=h.length
   .subst e;rw[upd_same]at h1;cases h1;simp[TC.real]at h2
   .rw[upd_ne _ _ e]at h1;have:=c.m.lt _ ⟨b',c',h1,h2⟩;omega
  .have:=alloc_old (w.alloc<|.deferred<|some []) (.loop {state:=.ready,pending:=none,fn,tmps:=a.tmps,params,assign,body,defers:=w.heap.size}) (k:=w.heap.size) (by omega)
   rw[show w1=_ from rfl,this]
   exact Wo w _
def Marks.add{base D:Nat}{ds:List Deferred}(hm:Marks T w base ds)(hb:base<=D)(hd:Wn T w D)(hlt:∀r,(∃t:Ty,∃w0:World,w0.heap.size<=D/\Wn t w0 r)->r<D)(hold:∃t:Ty,∃w0:World,w0.heap.size<=D/\Marks t w0 base ds):
 Marks T w base ([{target:=.collected D,args:=#[]}]++ds):=by
 obtain⟨rs,h1,h2,h3⟩:=hm;obtain⟨t,w0,hs,rs0,k1,k2,k3⟩:=hold;refine⟨D::rs,by rw[h1];rfl,ZY8.2 ⟨?_,h2⟩,?_⟩
 .intro hD;have e:rs=rs0:=by
   have:=h1.symm.trans k1;exact(List.map_inj_right<|λx y hxy=>by simpa using hxy).1 this
  subst e;have:=hlt D ⟨t,w0,hs,(k3 D hD).2⟩;omega
 .intro r hr;rcases ZXv.1 hr with rfl|hr
  .exact⟨hb,hd⟩
  .exact h3 r hr
def BM{k:Nat}(ih:AllOk P E k){f:Arg}{qs:List Nat}{x y:ACode}{e:AExit}{fr':Fr}{h':Hp}(he:Ze E (k+1) (.rangeFunc f qs x y) fr h=some (e,fr',h')){N:Nat}
 {g:Operand} {ps:Array Tmp} {as bd:Code} {base sz:Nat} {n:Nat}
 (hcr:X.cr=Chk P) (hN:N<=sz) (hg:Zr g f=true) (hps:ps.toList=qs) (hlt:∀p∈qs,p<N) (hca:QZ P N true as x=true) (hcb:QZ P N true bd y=true) (s:St E T X h w fr base sz a) (Q:Exit->Act->World->Prop)
 (hq:∀T' a' w',Step T w T' w'->St E T' X h' w' fr' base sz a'->Q (exR e) a' w'):(Code.rangeFunc g ps as bd).wpIn (Qa none) n P Q a w:=by
 simp only[Ze]at he;split at he
 .next g' first cap hev=>
  split at he
  .next v h2 hbody=>
   have hNs:N<=a.tmps.size:=by rw[s.sz];exact hN
   refine wpIn_rangeFunc λfn hfn=>?_
   have hgR:=evR s.c.gl s.f hg;rw[hev]at hgR;obtain⟨f1,c1,hge,hf1,hc1⟩:=hgR;obtain⟨st1,m1,hD⟩:=BL (fr:=fr) (ps:=qs) (as:=x) (bd:=y) s.c s.f fn (params:=ps) (assign:=as) (body:=bd) hps (λp hp=>ZY3 (hlt p hp) hNs)
    (by rw[hcr];exact⟨N,hNs,hca⟩) (by rw[hcr];exact⟨N,hNs,hcb⟩)
   let l:=w.heap.size+1
   let w1:=(w.alloc<|.deferred<|some []).alloc (.loop {state:=.ready,pending:=none,fn,tmps:=a.tmps,params:=ps,assign:=as,body:=bd,defers:=w.heap.size})
   have c1':Ctx E _ X _ w1:=s.c.step st1 m1;have hargs:Rs (upd T h.length<|.loop l) X w1 (first++[.yld h.length]++cap) ((f1++#[Value.func (.yield l) #[] #[]])++c1).toList:=by
    have q1:Rs (upd T h.length<|.loop l) X w1 [AV.yld h.length] [Value.func (.yield l) #[] #[]]:=⟨_,[],rfl,⟨l,upd_same _ _ _,rfl⟩,rfl⟩;have:=QR (QR (Yb st1 _ _ hf1) q1)<|Yb st1 _ _ hc1;simpa using this
   obtain⟨hrun,hcalls⟩:=ih.body g' _ _ v h2 hbody _ X w1 _ hcr c1' hargs;refine⟨l,_,w1,{target:=.fn (.func g') c1,args:=f1++#[Value.func (.yield l) #[] #[]]},w1,g',_,w1,run_enterLoop_outer _ _ _ _ _,?_,λ_ _=>VK _ _,?_,Rl _ _,Rm.2<|hcalls.mono ?_⟩
   .simp only[rangeCall,resolve,hge,Deferred.ofValue,Sem.run_pure];simp[Act.eval]
   .simp only[invoke];exact hrun
   .rintro e' w2 ⟨rv,rfl,T2,st2,m2,hv⟩;have key:∀lst pend fr3 ps3 as3 bd3,h2[h.length]?=some (.loop lst pend fr3 ps3 as3 bd3)->lst≠.busy->e=pend->fr'=fr->h'=setH h2 h.length (.loop .exhausted pend fr3 ps3 as3 bd3)->
     rangePost (Qa none) n P l Q {a with defers:=[{target:=.collected w.heap.size,args:=#[]}]++a.defers} (.returned rv) w2:=by
     rintro lst pend fr3 ps3 as3 bd3 hb2 hnb rfl rfl rfl;obtain⟨L,hL,hst,hpend,_,_,_,_,_,ste,me⟩:=KQ (lst':=.exhausted) (pend':=e) m2 hb2<|Rp st2<|upd_same T h.length<|.loop l;have hLe:({L with state:=.exhausted,pending:=XU e}:Loop)={L with state:=.exhausted}:=by rw[<-hpend]
     rw[hLe]at ste me;refine⟨L.pending,_,run_endLoop hL (by rw[hst];exact hnb),?_⟩
     have stt:=st1.trans<|st2.trans ste;have s':St E T2 X (setH h2 h.length<|.loop .exhausted e fr3 ps3 as3 bd3) (w2.putObj l<|.loop {L with state:=.exhausted}) fr' base sz {a with defers:=[{target:=.collected w.heap.size,args:=#[]}]++a.defers}:=by
      refine⟨s.c.step stt me,Kr stt s.f,s.sz,?_,ZXG s.base stt.size⟩;refine Marks.add (s.marks.step stt) s.base (Md (st2.trans ste) hD) (λr⟨t,w0,hs,hd⟩=>by have:=hd.1;omega) ⟨T,w,ZX0 _,s.marks⟩
     have hQ:=hq T2 _ _ stt s';have hgoal:∀(j:Option Code),j=XU e->(match j with
      |none=>Q .normal {a with defers:=[{target:=.collected w.heap.size,args:=#[]}]++a.defers}<|w2.putObj l<|.loop {L with state:=.exhausted}
      |some c=>c.wpIn (Qa none) n P Q {a with defers:=[{target:=.collected w.heap.size,args:=#[]}]++a.defers}<|w2.putObj l<|.loop {L with state:=.exhausted}):=by
      rintro j rfl;cases e with
      |normal=>exact hQ
      |exit id=>exact wpIn_exit hQ
      |ret=>exact wpIn_ret hQ
     exact hgoal _ hpend
    split at he
    .cases he
    .next lst pend fr3 ps3 as3 bd3 hnb hb2=>
     cases he;exact key _ _ _ _ _ _ hb2 (λe=>hnb e) rfl rfl rfl
    .cases he
  .cases he
 .cases he
def ZwB{v:Value}{bw ex:Bool}{z:Nat}(h:Q3 v (.isl bw ex z [])=true):v=.slice none 0 0:=by
 unfold Q3 at h;split at h<;>first|rfl|contradiction|(cases h;done)
def ZxR:∀{vs:List Value}{cs:List AV}{o:Nat}{bw ex:Bool}{z:Nat},Wr vs cs=true->cs[o]?=some (.isl bw ex z [])->vs[o]?=some (.slice none 0 0)
 |[],[],o,_,_,_,_,h=>by simp at h
 |[],_::_,_,_,_,_,hc,_=>by simp[Wr]at hc
 |_::_,[],_,_,_,_,hc,_=>by simp[Wr]at hc
 |v::vs,c::cs,0,bw,ex,z,hc,h=>by
  simp only[ZXy,Option.some.injEq]at h;subst h;simp only[Wr,ZWT]at hc;rw[ZwB hc.1];rfl
 |v::vs,c::cs,o+1,_,_,_,hc,h=>by
  simp only[Wr,ZWT]at hc;simp only[ZXS]at h⊢;exact ZxR hc.2 h
def ZxS:∀{cs:List AV}{vs:List Value}{o:Nat}{x:AV}{v:Value},Rs T X w cs vs->vs[o]?=some v->R T X w x v->Rs T X w (cs.set o x) vs
 |[],vs,o,x,v,h,_,_=>h
 |c::cs,vs,0,x,v,h,hv,hx=>by
  obtain⟨u,us,rfl,h1,h2⟩:=h;simp only[ZXy,Option.some.injEq]at hv;subst hv;exact⟨_,_,rfl,hx,h2⟩
 |c::cs,vs,o+1,x,v,h,hv,hx=>by
  obtain⟨u,us,rfl,h1,h2⟩:=h;exact⟨_,_,rfl,h1,ZxS h2 (by simpa using hv) hx⟩
def ZwC{b s:Nat}(hT:T b=some (.row s 0 none 0 0)):R T X w (.sl b 0 0 0 false) (.slice none 0 0):=
 ⟨⟨_,_,_,rfl⟩,s,0,none,0,0,hT,ZX0 _,ZX0 _,λ_=>⟨0,ZX0 _,ZX0 _,(λhh=>by cases hh),.inr ⟨rfl,none,rfl,λ_=>rfl⟩⟩⟩
def ZxT:∀{ps:List (Nat×Nat)}{b:Nat}{cs:List AV}{vs:List Value},Rs T X w cs vs->(∀p∈ps,vs[p.1]?=some (.slice none 0 0))->(∀i p,ps[i]?=some p->T (b+i)=some (.row p.2 0 none 0 0))->Rs T X w (Zw7 b cs ps) vs
 |[],_,_,_,h,_,_=>h
 |p::r,b,cs,vs,h,hn,hT=>by
  have h0:T b=some (.row p.2 0 none 0 0):=hT 0 p rfl;rw[Zw7];refine ZxT (ps:=r) (ZxS h (hn p<|ZYa ..)<|ZwC h0) (λq hq=>hn q<|ZYV _ hq)<|λi q hq=>?_
  have:=hT (i+1) q<|by simpa using hq
  rw[show b+1+i=b+(i+1)by omega]
  exact this
def Zzg{z:AV}{v:Value}{ps:List (Nat×Nat)}{b:Nat}(hc:Q3 v z=true)(hz:ZvV z ps=true)(hT:∀i p,ps[i]?=some p->T (b+i)=some (.row p.2 0 none 0 0)):R T X w (Zvr b ps z) v:=by
 have hr:R T X w z v:=Ws v z hc;unfold ZvV at hz;split at hz
 .rename_i cs;obtain⟨vs,rfl,hvs⟩:=hr;have hcs:Wr vs.toList cs=true:=by unfold Q3 at hc;exact hc
  refine⟨vs,rfl,ZxT hvs (λp hp=>?_) hT⟩
  have:=(ZXl.1 hz) p hp;simp only[ZWT]at this;have h2:=this.2;split at h2
  .rename_i hq;exact ZxR hcs hq
  .cases h2
 .rename_i bw ex zz s;have hv:v=.slice none 0 0:=by
   exact ZwB hc
  subst hv;exact ZwC<|hT 0 _ rfl
 .cases hz
def Zzh{z:AV}{ps:List (Nat×Nat)}(hz:ZvV z ps=true):∀p∈ps,0<p.2:=by
 unfold ZvV at hz;split at hz
 .intro p hp;have:=(ZXl.1 hz) p hp;simp only[ZWT,decide_eq_true_eq]at this;exact this.1
 .intro p hp;rw[ZXB]at hp;subst hp;simpa using hz
 .cases hz
def ZwD{base sz:Nat}:∀{ps:List (Nat×Nat)}{T:Ty}{h:Hp},(∀p∈ps,0<p.2)->St E T X h w fr base sz a->∃T1,Step T w T1 w/\St E T1 X (h++Zvo ps) w fr base sz a/\(∀b,b<h.length->T1 b=T b)/\∀i p,ps[i]?=some p->T1 (h.length+i)=some (.row p.2 0 none 0 0)
 |[],T,h,_,s=>⟨T,.refl _ _,by simpa[Zvo]using s,λ_ _=>rfl,λi p hp=>by simp at hp⟩
 |p::r,T,h,hp,s=>by
  have hT:T h.length=none:=Gn s.c.m;have st:Step T w (upd T h.length<|.row p.2 0 none 0 0) w:=by
   refine⟨rfl,rfl,rfl,ZX0 _,λx c hx=>⟨c,by rw[upd_ne _ _<|by rintro rfl;rw[hT]at hx;cases hx];exact hx,.refl _⟩,λ_ _ _=>rfl,λx hx=>?_,λ_=>ZX0 _⟩
   obtain⟨b',c',h1,h2⟩:=hx;by_cases e:b'=h.length
   .subst e;rw[upd_same]at h1;cases h1;cases h2
   .rw[upd_ne _ _ e]at h1;exact .inl ⟨b',c',h1,h2⟩
  have m1:M (upd T h.length<|.row p.2 0 none 0 0) X (h++[.row p.2 []]) w:=by
   have:=WZ s.c.m h.length (.row p.2 []) (.row p.2 0 none 0 0) (ZX0 _) st (λ_ _ _ _ _ _=>rfl) (λr hr=>by cases hr) ⟨rfl,rfl,hp p<|ZYa ..,ZX0 _,rfl⟩
   have e:setH h h.length (.row p.2 [])=h++[.row p.2 []]:=by
    unfold setH;have:Nat.blt h.length h.length=false:=by rw[ZY5];intro hh;simp at hh
    rw[this,cond_false]
   rwa[e]at this
  have s1:St E (upd T h.length<|.row p.2 0 none 0 0) X (h++[.row p.2 []]) w fr base sz a:=⟨s.c.step st m1,Kr st s.f,s.sz,s.marks.step st,s.base⟩;obtain⟨T1,k1,k2,k3,k4⟩:=ZwD (ps:=r) (λq hq=>hp q<|ZYV _ hq) s1
  have hl:(h++[AObj.row p.2 []]).length=h.length+1:=by simp
  rw[hl]at k3 k4;refine⟨T1,st.trans k1,?_,λb hb=>?_,λi q hq=>?_⟩
  .have:h++Zvo (p::r)=h++[.row p.2 []]++Zvo r:=by simp[Zvo]
   rw[this];exact k2
  .rw[k3 b (by omega),upd_ne _ _<|by omega]
  .cases i with
   |zero=>
    simp only[ZXy,Option.some.injEq]at hq;subst hq;rw[ZXE,k3 _<|Nat.lt_succ_self _,upd_same]
   |succ i=>
    have:=k4 i q<|by simpa using hq
    rw[show h.length+(i+1)=h.length+1+i by omega]
    exact this
def Zzi{N d z0:Nat}{z:AV}{ps:List (Nat×Nat)}{ops:Array Oper}{id base sz:Nat}{ro:Option Nat}{n:Nat}(hN:N<=sz)(hc:X7 P N ops ops.toList [⟨some d,.box z0<|.c z,none⟩]=true)(hal:ops.toList.all (λo=>match o.op with| .alloc _=>true|_=>false)=true)(hz:ZvV z ps=true)(hf:fits z0 (Zvr h.length ps z)=true)
 (s:St E T X h w fr base sz a) (Q:Exit->Act->World->Prop)
 (hq:∀T' a' w',Step T w T' w'->St E T' X (h++Zvo ps++[.row z0 [Zvr h.length ps z]]) w' (put fr d<|.ptr (h.length+ps.length) 0 0 1) base sz a'->Q .normal a' w'):(Code.region id ops false).wpIn (Qa ro) n P Q a w:=by
 refine wpIn_region_list ?_;cases hl:ops.toList with
 |nil=>rw[hl]at hc;simp[X7]at hc
 |cons o os=>
  rw[hl]at hc;simp only[X7,ZWT]at hc;obtain⟨hc1,hc2⟩:=hc;have hos:os=[]:=by
   cases os with
   |nil=>rfl
   |cons _ _=>simp[X7]at hc2
  subst hos;simp only[X6,ZWT]at hc1;obtain⟨⟨hd,hg⟩,hop⟩:=hc1;have hNs:N<=a.tmps.size:=by rw[s.sz];exact hN
  refine wpListIn_step λK hK=>?_
  rw[MM s.f hNs hg (b:=true) rfl,if_pos rfl];refine⟨λ_ _=>VK _ _,?_⟩
  have hop':Gb P o.op (.box z0<|.c z)=true:=hop;have hnd:∀c,o.op≠.defer c:=λc e=>by rw[e,L0]at hop';cases hop'
  rw[Oper.semAt_eq _ _ _ hnd];obtain⟨T1,st1,s1,_,hrows⟩:=ZwD (Zzh hz) s;rw[hl]at hal;simp only[ZXz,ZYg,ZWW]at hal;obtain⟨t,ho,hzz,h0⟩:∃t,o.op=.alloc t/\KI P t z=true/\0<z0:=by
   cases he:o.op<;>rw[he]at hal hop'<;>try (cases hal;done)
   simp only[Gb,ZWT,decide_eq_true_eq]at hop';exact⟨_,rfl,hop'⟩
  obtain⟨v,hv,hcz⟩:=Gf hzz;have hlen:(h++Zvo ps).length=h.length+ps.length:=by simp[Zvo]
  obtain⟨T',w',rv,hrun,st,m',hv'⟩:=UZ (P:=P) (e:=t) (rs:=[]) (s:=(execOp a.eval o)) s1.c.m s1.c.hX (ZX0 _) (Gn s1.c.m) h0 hf (Zzg (T:=T1) (X:=X) (w:=w) hcz hz hrows)
   (Qg (a:=a) (s:=Instr.alloc t true<|.tuple #[]) (by simp only[execOp,ho])<|by simp[Instr.alloc,Xu w hv,KB])
  have hend:K (a.put o.dst rv) w':=by
   refine hK _ _<|hq T' _ w' (st1.trans st) ?_;have:=Gi s1 hN hd st m' hv';have e:ZH (h++Zvo ps) (some ((h++Zvo ps).length,.row z0 [Zvr h.length ps z]))=h++Zvo ps++[.row z0 [Zvr h.length ps z]]:=by
    show setH _ _ _=_
    unfold setH;have:Nat.blt (h++Zvo ps).length (h++Zvo ps).length=false:=by rw[ZY5];intro hh;simp at hh
    rw[this,cond_false]
   rw[e,hlen]at this;exact this
  rcases hrun with hrun|⟨hrun,rfl⟩<;>rw[hrun]<;>exact hend
def Zzj{N s0 d off:Nat}{p:Arg}{ops:Array Oper}{id base sz:Nat}{ro:Option Nat}{n:Nat}(hN:N<=sz)(hc:X7 P N ops ops.toList [⟨some d,.fadr off p,none⟩,⟨none,.store 1 (.t d)<|.c<|.isl false false s0 [],none⟩]=true)(h0:0<s0)
 {e:AExit} {fr':Fr} {h':Hp} (he:ZvU E s0 d off p fr h=some (e,fr',h'))
 (s:St E T X h w fr base sz a) (Q:Exit->Act->World->Prop)
 (hq:∀T' a' w',Step T w T' w'->St E T' X h' w' fr' base sz a'->Q (exR e) a' w'):(Code.region id ops false).wpIn (Qa ro) n P Q a w:=by
 refine wpIn_region_list ?_;unfold ZvU at he;cases he1:Z8 E fr h h.length (.fadr off p)with
 |none=>rw[he1]at he;cases he
 |some r1=>
 obtain⟨v,rs1,wr1⟩:=r1;rw[he1]at he;cases wr1 with
 |some _=>cases he
 |none=>
 dsimp only at he;cases he2:Z8 E (put fr d v) (h++[.row s0 []]) (h.length+1) (.store 1 (.t d)<|.c<|.sl h.length 0 0 0 false)with
 |none=>rw[he2]at he;cases he
 |some r2=>
 rw[he2]at he;dsimp only at he;simp only[Option.some.injEq,Prod.mk.injEq]at he;obtain⟨rfl,rfl,rfl⟩:=he;cases hl:ops.toList with
 |nil=>rw[hl]at hc;simp[X7]at hc
 |cons o1 os=>
 rw[hl]at hc;cases os with
 |nil=>simp[X7]at hc
 |cons o2 os=>
 simp only[X7,ZWT]at hc;obtain⟨hc1,hc2,hc3⟩:=hc;have hos:os=[]:=by
  cases os with
  |nil=>rfl
  |cons _ _=>simp[X7]at hc3
 subst hos;simp only[X6,ZWT]at hc1 hc2;obtain⟨⟨hd1,hg1⟩,hop1⟩:=hc1;obtain⟨⟨hd2,hg2⟩,hop2⟩:=hc2;have hNs:N<=a.tmps.size:=by rw[s.sz];exact hN
 refine wpListIn_step λK hK=>?_
 rw[MM s.f hNs hg1 (b:=true) rfl,if_pos rfl];refine⟨λ_ _=>VK _ _,?_⟩
 have hop1':Gb P o1.op (.fadr off p)=true:=hop1;have hop2':Gb P o2.op (.store 1 (.t d)<|.c<|.isl false false s0 [])=true:=hop2;have hnd1:∀c,o1.op≠.defer c:=λc e=>by rw[e,L0]at hop1';cases hop1'
 have hnd2:∀c,o2.op≠.defer c:=λc e=>by rw[e,L0]at hop2';cases hop2'
 rw[Oper.semAt_eq _ _ _ hnd1];obtain⟨T1,w1,rv1,hrun1,st1,m1,hv1⟩:=MZ s.c s.f (ZX0 _) (Gn s.c.m) hop1' he1;have s1:St E T1 X h w1 (put fr d v) base sz (a.put o1.dst rv1):=Gi s hN hd1 st1 m1 hv1;have hend:K (a.put o1.dst rv1) w1:=by
  refine hK _ _ ?_;generalize a.put o1.dst rv1=a1 at s1;have hNs1:N<=a1.tmps.size:=by rw[s1.sz];exact hN
  refine wpListIn_step λK2 hK2=>?_
  rw[MM s1.f hNs1 hg2 (b:=true) rfl,if_pos rfl];refine⟨λ_ _=>VK _ _,?_⟩
  rw[Oper.semAt_eq _ _ _ hnd2];obtain⟨T2,st2,s2,_,hrows⟩:=ZwD (ps:=[(0,s0)]) (by intro q hq;rw[ZXB]at hq;subst hq;exact h0) s1
  have hz:h++Zvo [(0,s0)]=h++[.row s0 []]:=rfl;rw[hz]at s2;obtain⟨t,x,y,ho,hn,hx,hy⟩:∃t x y,o2.op=.store t x y/\ZR P t=some 1/\Zr x (.t d)=true/\Zr y (.c<|.isl false false s0 [])=true:=by
   cases hh:o2.op<;>rw[hh]at hop2'<;>simp only[Gb]at hop2'<;>try (cases hop2';done)
   simp only[ZWT,decide_eq_true_eq]at hop2';exact⟨_,_,_,rfl,hop2'.1.1,hop2'.1.2,hop2'.2⟩
  have hyv:a1.eval y=.slice none 0 0:=by
   cases y<;>simp only[Zr]at hy<;>try (cases hy;done)
   exact ZwB hy
  have hR:R T2 X w1 (.sl h.length 0 0 0 false) (a1.eval y):=by
   rw[hyv];exact ZwC<|hrows 0 (0,s0) rfl
  have he2':=he2;simp only[Z8]at he2';obtain⟨T',w',rv,hrun,st,m',hv'⟩:=Cx (P:=P) (s:=execOp a1.eval o2) s2.c.m hn (evR s2.c.gl s2.f hx) hR (λw' hr=>Ri (s:=Instr.storeAt t (a1.eval x)<|a1.eval y) (by simp only[execOp,ho]) hr) he2'
  have hfin:K2 (a1.put o2.dst rv) w':=by
   refine hK2 _ _<|hq T' _ w' ((st1.trans st2).trans st) ?_;exact Gi s2 hN hd2 st m' hv'
  rcases hrun with hrun|⟨hrun,rfl⟩<;>rw[hrun]<;>exact hfin
 rcases hrun1 with hrun|⟨hrun,rfl⟩<;>rw[hrun]<;>exact hend
def ZR0{r:Nat}{x y:AV}(hxy:∀v,R T X w x v->R T X w y v):∀{cs:List AV}{off o:Nat},cs[off]?=some x->ZV T X w r cs o->ZV T X w r (cs.set off y) o
 |[],_,_,hx,_=>by simp at hx
 |c::cs,0,o,hx,hr=>by
  simp only[ZXy,Option.some.injEq]at hx;subst hx;obtain⟨⟨v,h1,h2⟩,h3⟩:=hr;exact⟨⟨v,h1,hxy v h2⟩,h3⟩
 |c::cs,off+1,o,hx,hr=>⟨hr.1,ZR0 hxy (by simpa using hx) hr.2⟩
def ZSl(m:M T X h w){b sz off:Nat}{cs:List AV}{x y:AV}(hb:h[b]?=some (.row sz [.agg cs]))(hx:cs[off]?=some x)(hxy:∀v,R T X w x v->R T X w y v):M T X (setH h b<|.row sz [.agg<|cs.set off y]) w where
 inj:=m.inj
 lt:=m.lt
 notX:=m.notX
 obj b':=by
  rw[Ks h b _<|ZXU (ZXg.1 hb).1];by_cases e:b'=b
  .subst e;rw[if_pos rfl];have:=m.obj b';rw[hb]at this;cases hT:T b' with
   |none=>rw[hT]at this;exact this.elim
   |some c=>
    rw[hT]at this;cases c with
    |map _=>exact this.elim
    |iter _=>exact this.elim
    |loop _=>exact this.elim
    |row sz' g r C B=>
     obtain⟨rfl,h1,h2,h3,h4⟩:=this;refine⟨rfl,h1,h2,h3,?_⟩;cases r with
     |none=>exact h4
     |some r=>
      obtain⟨ce,el,h5,h6,h7,h8,h9⟩:=h4;exact⟨ce,el,h5,h6,by rw[ZXc];exact h7,ZR0 hxy hx h8,h9⟩
  .rw[if_neg e];exact m.obj b'
def ZSm{d off s0:Nat}{h2:Hp}{base sz:Nat}(hg:ghW d off s0 fr h=some h2)(s:St E T X h w fr base sz a):∃T1,Step T w T1 w/\St E T1 X h2 w fr base sz a:=by
 unfold ghW at hg;split at hg
 .rename_i b hd;split at hg
  .rename_i sz1 cs hb;split at hg
   .rename_i hx;cases h0:Nat.blt 0 s0 with
    |false=>rw[h0]at hg;cases hg
    |true=>
     rw[h0,cond_true,Option.some.injEq]at hg;subst hg;obtain⟨T1,st,s1,_,hT⟩:=ZwD (ps:=[(0,s0)]) (λp hp=>by
      rw[ZXB]at hp;subst hp;simpa using h0) s
     have hT0:=hT 0 (0,s0) rfl;rw[ZXE]at hT0;have hblt:b<h.length:=(ZXg.1 hb).1;have hb1:(h++Zvo [(0,s0)])[b]?=some (.row sz1 [.agg cs]):=by rw[ZXK hblt];exact hb
     have m1:=ZSl (y:=.sl h.length 0 0 0 false) s1.c.m hb1 hx (λv hv=>by
      have hv:v=.slice none 0 0:=hv;subst hv;exact⟨⟨_,_,_,rfl⟩,s0,0,none,0,0,hT0,ZX0 _,ZX0 _,λ_=>⟨0,ZX0 _,ZX0 _,λ_=>rfl,.inr ⟨rfl,none,rfl,λ_=>rfl⟩⟩⟩)
     have e1:setH (h++Zvo [(0,s0)]) b (.row sz1 [.agg<|cs.set off<|.sl h.length 0 0 0 false])=setH h b (.row sz1 [.agg<|cs.set off<|.sl h.length 0 0 0 false])++[.row s0 []]:=by
      unfold setH;rw[show Nat.blt b (h++Zvo [(0,s0)]).length=true by simp[Zvo];omega,show Nat.blt b h.length=true by simpa using hblt,cond_true,cond_true,List.set_append_left _ _ hblt]
      rfl
     rw[e1]at m1;exact⟨T1,st,⟨⟨m1,s1.c.gl,s1.c.hX⟩,s1.f,s1.sz,s1.marks,s1.base⟩⟩
   .cases hg
  .cases hg
 .cases hg
def L7(P:Program)(E:Env)(k:Nat):Prop:=∀un p1 p2 fr h fr' h',Ze E (k+1) (.draw un p1 p2) fr h=some (.normal,fr',h')->∀(T:Ty)(X:Xt)(w:World)(a:Act)(N:Nat)(id:Nat)(ops:Array Oper)(base sz:Nat)(ro:Option Nat)(n:Nat),
 X.cr=Chk P->N<=sz->Gj P N ops un p1 p2=true->St E T X h w fr base sz a->∀(Q:Exit->Act->World->Prop),
 (∀T' a' w',Step T w T' w'->St E T' X h' w' fr' base sz a'->Q .normal a' w')->(Code.region id ops true).wpIn (Qa ro) n P Q a w
def BN(gl:∀g,clean (E.gl g)=true){k:Nat}(hdraw:L7 P E k)(ih:AllOk P E k){q:ACode}{e:AExit}{fr':Fr}{h':Hp}(he:Ze E (k+1) q fr h=some (e,fr',h')){N:Nat}{c:Code}{base sz:Nat}{rd:Bool}{ro:Option Nat}{n:Nat}
 (hcr:X.cr=Chk P) (hN:N<=sz) (hc:QZ P N rd c q=true) (hro:rd=false->ro=none) (s:St E T X h w fr base sz a) (Q:Exit->Act->World->Prop)
 (hq:∀T' a' w',Step T w T' w'->St E T' X h' w' fr' base sz a'->Q (exR e) a' w'):c.wpIn (Qa ro) n P Q a w:=by
 unfold QZ at hc;split at hc
 .simp only[Ze,Option.some.injEq,Prod.mk.injEq]at he;obtain⟨rfl,rfl,rfl⟩:=he;exact wpIn_skip<|hq T a w (.refl _ _) s
 .simp only[Ze,Option.some.injEq,Prod.mk.injEq]at he;obtain⟨rfl,rfl,rfl⟩:=he;exact wpIn_label<|hq T a w (.refl _ _) s
 .next id ops qs=>
  simp only[Ze,ZXi,Prod.mk.injEq]at he;obtain⟨⟨fr1,h1⟩,he,rfl,rfl,rfl⟩:=he;exact wpIn_region_list<|ih.ops qs fr h _ _ he T X w a N ops ops.toList base sz ro n hcr hN hc s Q hq
 .next id ops d z0 z ps=>
  simp only[ZWT]at hc;simp only[Ze]at he;cases hf:fits z0 (Zvr h.length ps z)with
  |false=>rw[hf]at he;cases he
  |true=>
   rw[hf]at he;simp only[cond_true,Option.some.injEq,Prod.mk.injEq]at he;obtain⟨rfl,rfl,rfl⟩:=he;exact Zzi hN hc.1 hc.2.1 hc.2.2 hf s Q hq
 .next id ops s0 d off p=>
  simp only[ZWT,decide_eq_true_eq]at hc;simp only[Ze]at he;exact Zzj hN hc.1 hc.2 he s Q hq
 .next id ops un p1 p2=>
  have hen:e=.normal:=by
   simp only[Ze]at he;split at he
   .simp only[ZXi,Prod.mk.injEq]at he;obtain⟨_,_,rfl,_⟩:=he;rfl
   .cases he
  subst hen;exact hdraw un p1 p2 fr h fr' h' he T X w a N id ops base sz ro n hcr hN hc s Q hq
 .next c1 c2 x y=>
  simp only[ZWT]at hc;simp only[Ze]at he;refine wpIn_seq ?_;cases hb:Ze E k x fr h with
  |none=>rw[hb]at he;cases he
  |some r=>
   obtain⟨e1,fr1,h1⟩:=r;rw[hb]at he;refine ih.code x fr h e1 fr1 h1 hb T X w a N c1 base sz rd ro n hcr hN hc.1 hro s _ ?_;intro T1 a1 w1 st1 s1;cases e1 with
   |normal=>exact ih.code y fr1 h1 e fr' h' he T1 X w1 a1 N c2 base sz rd ro n hcr hN hc.2 hro s1 Q<|λT2 a2 w2 st2 s2=>hq T2 a2 w2 (st1.trans st2) s2
   |exit id=>cases he;exact hq T1 a1 w1 st1 s1
   |ret=>cases he;exact hq T1 a1 w1 st1 s1
 .next c0 c1 c2 d x y=>
  simp only[ZWT]at hc;simp only[Ze]at he;have hd:=evR s.c.gl s.f hc.1.1;split at he
  .next hev=>
   rw[hev]at hd;exact wpIn_cond_true hd<|ih.code x fr h e fr' h' he T X w a N c1 base sz rd ro n hcr hN hc.1.2 hro s Q hq
  .next hev=>
   rw[hev]at hd;exact wpIn_cond_false hd<|ih.code y fr h e fr' h' he T X w a N c2 base sz rd ro n hcr hN hc.2 hro s Q hq
  .cases he
 .next i c1 j x=>
  simp only[ZWT,beq_iff_eq]at hc;obtain⟨rfl,hc⟩:=hc;simp only[Ze]at he;refine wpIn_block ?_;cases hb:Ze E k x fr h with
  |none=>rw[hb]at he;cases he
  |some r=>
   obtain⟨e1,fr1,h1⟩:=r;rw[hb]at he;refine ih.code x fr h e1 fr1 h1 hb T X w a N c1 base sz rd ro n hcr hN hc hro s _ ?_;intro T1 a1 w1 st1 s1;cases e1 with
   |normal=>cases he;exact hq T1 a1 w1 st1 s1
   |exit id=>
    simp only[exR,Exit.inBlock];by_cases hid:id=i
    .subst hid;simp only[beq_self_eq_true,cond_true,Option.some.injEq,Prod.mk.injEq]at he;obtain⟨rfl,rfl,rfl⟩:=he;rw[if_pos rfl];exact hq T1 a1 w1 st1 s1
    .have:(id==i)=false:=by simpa using hid
     simp only[this,cond_false,Option.some.injEq,Prod.mk.injEq]at he;obtain⟨rfl,rfl,rfl⟩:=he;rw[if_neg hid];exact hq T1 a1 w1 st1 s1
   |ret=>cases he;exact hq T1 a1 w1 st1 s1
 .next c1 live x=>
  exact wpIn_loop_rounds (k+1)<|L5 ih he hcr hN hc hro s Q hq
 .next g ps as bd f qs x y=>
  simp only[ZWT,ZXn,decide_eq_true_eq,ZXl,ZXT]at hc;obtain⟨⟨⟨⟨⟨hrd,hg⟩,hps⟩,hlt⟩,hca⟩,hcb⟩:=hc;rw[hro hrd];exact BM ih he hcr hN hg hps hlt hca hcb s Q hq
 .next i j=>
  simp only[beq_iff_eq]at hc;subst hc;simp only[Ze,Option.some.injEq,Prod.mk.injEq]at he;obtain⟨rfl,rfl,rfl⟩:=he;exact wpIn_exit<|hq T a w (.refl _ _) s
 .simp only[Ze,Option.some.injEq,Prod.mk.injEq]at he;obtain⟨rfl,rfl,rfl⟩:=he;exact wpIn_ret<|hq T a w (.refl _ _) s
 .next live x=>
  simp only[Ze]at he;split at he
  .next e1 fr1 h1 hb=>
   simp only[Option.some.injEq,Prod.mk.injEq]at he;obtain⟨rfl,rfl,rfl⟩:=he;refine ih.code x fr h e1 fr1 h1 hb T X w a N c base sz rd ro n hcr hN hc hro s Q ?_;intro T1 a1 w1 st1 s1;obtain⟨T2,st2,s2⟩:=BK s.c.m gl st1<|s1.withFr<|L4 (live:=live) s1.f;exact hq T2 a1 w1 st2 s2
  .cases he
 .next d off s0 x=>
  simp only[Ze]at he;split at he
  .next fr1 h1 hb=>
   simp only[ZXi,Prod.mk.injEq]at he;obtain⟨h2,hg,rfl,rfl,rfl⟩:=he;refine ih.code x fr h .normal fr1 h1 hb T X w a N c base sz rd ro n hcr hN hc hro s Q ?_;intro T1 a1 w1 st1 s1;obtain⟨T2,st2,s2⟩:=ZSm hg s1;exact hq T2 a1 w1 (st1.trans st2) s2
  .cases he
 .cases hc
end Go.AM
namespace Go.AM
open Go
variable [Dr]
structure Rc where
 dst:Option Nat
 v:AV
 wr:Option<|Nat×AObj
 d:DRec
def LW{α:Type}(S:Nat->Bool)(f:Rc->Option α):Nat->List Rc->α->α
 |_,[],d=>d
 |i,r::rs,d=>LW S f (i+1) rs (if S i then(f r).getD d else d)
def Gs{α:Type}{S S':Nat->Bool}{f:Rc->Option α}:∀(rs:List Rc)(i:Nat)(d:α),(∀k r,rs[k]?=some r->(f r).isSome=true->S (i+k)=S' (i+k))->LW S f i rs d=LW S' f i rs d:=by
 intro rs;induction rs with
 |nil=>intro i d _;rfl
 |cons r rs ih=>
  intro i d hh;simp only[LW];have h0:=hh 0 r rfl;have e:(if S i then(f r).getD d else d)=if S' i then(f r).getD d else d:=by
   cases hf:f r with
   |none=>simp
   |some x=>rw[hf]at h0;have:=h0 rfl;simp only[ZXE]at this;rw[this]
  rw[e];exact ih (i+1) _ (λk r' hk hs=>by have:=hh (k+1) r' (by simpa using hk) hs;rw[show i+1+k=i+(k+1)by omega];exact this)
def Rt{α:Type}{S:Nat->Bool}{f:Rc->Option α}:∀(rs:List Rc)(i:Nat)(d:α),(∀k r,rs[k]?=some r->(f r).isSome=true->S (i+k)=false)->LW S f i rs d=d:=by
 intro rs;induction rs with
 |nil=>intro i d _;rfl
 |cons r rs ih=>
  intro i d hh;simp only[LW];have h0:=hh 0 r rfl;have e:(if S i then(f r).getD d else d)=d:=by
   cases hf:f r with
   |none=>simp
   |some x=>rw[hf]at h0;have:=h0 rfl;simp only[ZXE]at this;rw[this];simp
  rw[e];exact ih (i+1) _ (λk r' hk hs=>by have:=hh (k+1) r' (by simpa using hk) hs;rw[show i+1+k=i+(k+1)by omega];exact this)
def Ru{α:Type}{S:Nat->Bool}{f:Rc->Option α}:∀(rs us:List Rc)(i:Nat)(d:α),LW S f i (rs++us) d=LW S f (i+rs.length) us (LW S f i rs d):=by
 intro rs;induction rs with
 |nil=>intro us i d;rfl
 |cons r rs ih=>
  intro us i d;simp only[ZXj,LW,ih,ZXr];rw[show i+1+rs.length=i+(rs.length+1)by omega]
def BO{α:Type}{S:Nat->Bool}{f:Rc->Option α}{rs:List Rc}{i k:Nat}{d x:α}{r:Rc}(hk:rs[k]?=some r)(hf:f r=some x)(hS:S (i+k)=true)
 (hl:∀k' r',k<k'->rs[k']?=some r'->(f r').isSome=true->S (i+k')=false):LW S f i rs d=x:=by
 have hlt:k<rs.length:=(ZXg.1 hk).1;have hd:rs.drop k=r::rs.drop (k+1):=by
  rw[ZY4 hlt];rw[ZX5 hlt]at hk;cases hk;rfl
 have hs:rs=rs.take k++(r::rs.drop (k+1)):=by rw[<-hd,ZXW]
 rw[hs,Ru];have hlen:(rs.take k).length=k:=by simp;omega
 rw[hlen];simp only[LW,hS,if_true,hf,ZYK];refine Rt _ _ _<|λj r' hj hsome=>?_
 have:rs[k+1+j]?=some r':=by rw[<-ZYd];exact hj
 have:=hl (k+1+j) r' (by omega) this hsome
 rw[show i+k+1+j=i+(k+1+j)by omega]
 exact this
def fD(t:Nat)(r:Rc):Option AV:=if r.dst=some t then some r.v else none
def Y0:Nat->Bool:=λ_=>true
def below(m:Nat):Nat->Bool:=λk=>decide (k<m)
def KT(k v:AV):Option AObj->Option AObj
 |some (.map ks vs)=>some<|.map (ks++[k])<|vs++[v]
 |d=>d
def gW(b:Nat)(r:Rc)(d:Option AObj):Option AObj:=
 match r.wr with
 |some (b',o)=>if b'=b then(match r.d.ik with|some (k,v)=>KT k v d|none=>some o)else d
 |none=>d
def YT(b:Nat)(r:Rc):Prop:=∃o,r.wr=some (b,o)
def V7{b:Nat}{r:Rc}(h:¬YT b r)(d:Option AObj):gW b r d=d:=by
 unfold gW;split
 .next b' o hw=>
  split
  .next e=>subst e;exact(h ⟨o,hw⟩).elim
  .rfl
 .rfl
def VL{b:Nat}{r:Rc}{o:AObj}(hw:r.wr=some (b,o))(hk:r.d.ik=none)(d:Option AObj):gW b r d=some o:=by
 unfold gW;rw[hw];simp[hk]
def VM{b:Nat}{r:Rc}{o:AObj}{k v:AV}(hw:r.wr=some (b,o))(hk:r.d.ik=some (k,v))(d:Option AObj):gW b r d=KT k v d:=by
 unfold gW;rw[hw];simp[hk]
def LF(S:Nat->Bool)(b:Nat):Nat->List Rc->Option AObj->Option AObj
 |_,[],d=>d
 |i,r::rs,d=>LF S b (i+1) rs (if S i then gW b r d else d)
def VN{S S':Nat->Bool}{b:Nat}:∀(rs:List Rc)(i:Nat)(d:Option AObj),(∀k r,rs[k]?=some r->YT b r->S (i+k)=S' (i+k))->LF S b i rs d=LF S' b i rs d:=by
 intro rs;induction rs with
 |nil=>intro i d _;rfl
 |cons r rs ih=>
  intro i d hh;simp only[LF];have h0:=hh 0 r rfl;have e:(if S i then gW b r d else d)=if S' i then gW b r d else d:=by
   by_cases ha:YT b r
   .have:=h0 ha;simp only[ZXE]at this;rw[this]
   .rw[V7 ha];simp
  rw[e];exact ih (i+1) _ (λk r' hk hs=>by have:=hh (k+1) r' (by simpa using hk) hs;rw[show i+1+k=i+(k+1)by omega];exact this)
def U0{S:Nat->Bool}{b:Nat}:∀(rs:List Rc)(i:Nat)(d:Option AObj),(∀k r,rs[k]?=some r->YT b r->S (i+k)=false)->LF S b i rs d=d:=by
 intro rs;induction rs with
 |nil=>intro i d _;rfl
 |cons r rs ih=>
  intro i d hh;simp only[LF];have h0:=hh 0 r rfl;have e:(if S i then gW b r d else d)=d:=by
   by_cases ha:YT b r
   .have:=h0 ha;simp only[ZXE]at this;rw[this];simp
   .rw[V7 ha];simp
  rw[e];exact ih (i+1) _ (λk r' hk hs=>by have:=hh (k+1) r' (by simpa using hk) hs;rw[show i+1+k=i+(k+1)by omega];exact this)
def VO{S:Nat->Bool}{b:Nat}:∀(rs us:List Rc)(i:Nat)(d:Option AObj),LF S b i (rs++us) d=LF S b (i+rs.length) us (LF S b i rs d):=by
 intro rs;induction rs with
 |nil=>intro us i d;rfl
 |cons r rs ih=>
  intro us i d;simp only[ZXj,LF,ih,ZXr];rw[show i+1+rs.length=i+(rs.length+1)by omega]
def Rv{rs:List Rc}{k:Nat}{r:Rc}(hk:rs[k]?=some r):rs=rs.take k++(r::rs.drop (k+1))/\(rs.take k).length=k:=by
 have hlt:k<rs.length:=(ZXg.1 hk).1;have hd:rs.drop k=r::rs.drop (k+1):=by
  rw[ZY4 hlt];rw[ZX5 hlt]at hk;cases hk;rfl
 exact⟨by rw[<-hd,ZXW],by simp;omega⟩
def BP{S:Nat->Bool}{b:Nat}{rs:List Rc}{i k:Nat}{d:Option AObj}{o:AObj}{r:Rc}(hk:rs[k]?=some r)(hw:r.wr=some (b,o))(hik:r.d.ik=none)(hS:S (i+k)=true)
 (hl:∀k' r',k<k'->rs[k']?=some r'->YT b r'->S (i+k')=false):LF S b i rs d=some o:=by
 obtain⟨hs,hlen⟩:=Rv hk;rw[hs,VO,hlen];simp only[LF,hS,if_true,VL hw hik];refine U0 _ _ _<|λj r' hj ha=>?_
 have:rs[k+1+j]?=some r':=by rw[<-ZYd];exact hj
 have:=hl (k+1+j) r' (by omega) this ha
 rw[show i+k+1+j=i+(k+1+j)by omega]
 exact this
def L8(fr:Fr)(d:Option Nat)(v:AV)(t:Nat):get (ZB fr d v) t=if d=some t then v else get fr t:=by
 cases d with
 |none=>simp[ZB]
 |some d=>
  simp only[ZB,put,get,Option.some.injEq];by_cases e:d=t
  .subst e;simp
  .have:(d==t)=false:=by simpa using e
   rw[this,cond_false,if_neg e]
def BQ(h:Hp)(wr:Option<|Nat×AObj)(hb:Ya h wr=true)(b:Nat):(ZH h wr)[b]?=match wr with|some (b',o)=>if b=b' then some o else h[b]? |none=>h[b]?:=by
 cases wr with
 |none=>rfl
 |some p=>
  obtain⟨b',o⟩:=p;simp only[Ya,Nat.ble_eq]at hb;exact Ks h b' o hb b
def BR{b:Nat}(rs:List Rc)(r:Rc)(d:Option AObj):LF Y0 b 0 (rs++[r]) d=gW b r (LF Y0 b 0 rs d):=by
 rw[VO];rfl
def L9{b:Nat}(rs us:List Rc)(d:Option AObj):LF (below rs.length) b 0 (rs++us) d=LF Y0 b 0 rs d:=by
 rw[VO,U0 us]
 .exact VN _ _ _ (λk r hk _=>by
  have:=(ZXg.1 hk).1;simp only[below,Y0,ZXf,decide_eq_true_eq];omega)
 .intro k r _ _;simp only[below,ZXf,decide_eq_false_iff_not];omega
def U1(d:DRec)(wr:Option<|Nat×AObj)(h:Hp):Prop:=∀k v,d.ik=some (k,v)->∃b ks vs,wr=some (b,.map (ks++[k])<|vs++[v])/\h[b]?=some (.map ks vs)
def BS{α:Type}{f:Rc->Option α}(rs:List Rc)(r:Rc)(d:α):LW Y0 f 0 (rs++[r]) d=(f r).getD (LW Y0 f 0 rs d):=by
 rw[Ru];rfl
def BT{α:Type}{f:Rc->Option α}(rs us:List Rc)(d:α):LW (below rs.length) f 0 (rs++us) d=LW Y0 f 0 rs d:=by
 rw[Ru,Rt us]
 .exact Gs _ _ _ (λk r hk _=>by
  have:=(ZXg.1 hk).1;simp only[below,Y0,ZXf,decide_eq_true_eq];omega)
 .intro k r _ _;simp only[below,ZXf,decide_eq_false_iff_not];omega
structure Run(ex:AOper->Fr->Hp->Option (AV×DRec×Option (Nat×AObj)))(fr0:Fr)(h0:Hp)(qs:List AOper)(us:List<|List Nat)(rc:List Rc)(fr':Fr)(h':Hp):Prop where
 len:rc.length=qs.length
 op:∀i q,qs[i]?=some q->∃fr h r u,rc[i]?=some r/\us[i]?=some u/\ex q fr h=some (r.v,r.d,r.wr)/\r.dst=q.dst/\Ya h r.wr=true/\h.length<=(ZH h r.wr).length/\(ZH h r.wr).length<=h'.length/\
  (∀t,get fr t=LW (below i) (fD t) 0 rc (get fr0 t))/\(∀b,h[b]?=LF (below i) b 0 rc (h0[b]?))/\h0.length<=h.length/\U1 r.d r.wr h/\
  (∀j∈u,∃y,rc[j]?=some y/\j<i/\Qy r.d y.d=true)
 fr:∀t,get fr' t=LW Y0 (fD t) 0 rc (get fr0 t)
 hp:∀b,h'[b]?=LF Y0 b 0 rc (h0[b]?)
 grow:h0.length<=h'.length
def BU(h:Hp)(b:Nat)(o:AObj):h.length<=(setH h b o).length:=by
 unfold setH;cases Nat.blt b h.length<;>simp
def Rw(h:Hp)(wr:Option<|Nat×AObj):h.length<=(ZH h wr).length:=by
 cases wr with
 |none=>exact ZX0 _
 |some p=>exact BU h p.1 p.2
def BV{x:DRec}{recs:List DRec}:∀{u:List Nat},Zv x recs u=true->∀j∈u,∃y,recs[j]?=some y/\Qy x y=true:=by
 intro u;induction u with
 |nil=>intro _ j hj;cases hj
 |cons i u ih=>
  intro hh j hj;simp only[Zv,ZWT]at hh;rcases ZXv.1 hj with rfl|hj
  .cases hr:recs[j]? with
   |none=>rw[hr]at hh;cases hh.1
   |some y=>rw[hr]at hh;exact⟨y,rfl,hh.1⟩
  .exact ih hh.2 j hj
def BW(ex:AOper->Fr->Hp->Option (AV×DRec×Option (Nat×AObj)))(hex:∀q fr h v d wr,ex q fr h=some (v,d,wr)->U1 d wr h)(fr0:Fr)(h0:Hp):∀(qs:List AOper)(us:List<|List Nat)(done:List Rc)(fr:Fr)(h:Hp)(fr':Fr)(h':Hp),
 QH ex qs us fr h (done.map (·.d))=some (fr',h')->(∀t,get fr t=LW Y0 (fD t) 0 done (get fr0 t))->(∀b,h[b]?=LF Y0 b 0 done (h0[b]?))->h0.length<=h.length->
 ∃rest:List Rc,rest.length=qs.length/\h.length<=h'.length/\
  (∀i q,qs[i]?=some q->∃fr h r u,(done++rest)[done.length+i]?=some r/\us[i]?=some u/\ex q fr h=some (r.v,r.d,r.wr)/\r.dst=q.dst/\Ya h r.wr=true/\h.length<=(ZH h r.wr).length/\(ZH h r.wr).length<=h'.length/\
   (∀t,get fr t=LW (below<|done.length+i) (fD t) 0 (done++rest) (get fr0 t))/\(∀b,h[b]?=LF (below<|done.length+i) b 0 (done++rest) (h0[b]?))/\h0.length<=h.length/\U1 r.d r.wr h/\
   (∀j∈u,∃y,(done++rest)[j]?=some y/\j<done.length+i/\Qy r.d y.d=true))/\
  (∀t,get fr' t=LW Y0 (fD t) 0 (done++rest) (get fr0 t))/\(∀b,h'[b]?=LF Y0 b 0 (done++rest) (h0[b]?)):=by
 intro qs;induction qs with
 |nil=>
  intro us done fr h fr' h' he hf hh hlen;simp only[QH,Option.some.injEq,Prod.mk.injEq]at he;obtain⟨rfl,rfl⟩:=he;exact⟨[],rfl,ZX0 _,λi q hq=>by simp at hq,by simpa using hf,by simpa using hh⟩
 |cons q qs ih=>
  intro us done fr h fr' h' he hf hh hlen;cases us with
  |nil=>simp[QH]at he
  |cons u us=>
   simp only[QH]at he;split at he
   .next v d wr hex'=>
    cases hok:(Zv d (done.map (·.d)) u&&Ya h wr)with
    |false=>rw[hok]at he;cases he
    |true=>
     rw[hok]at he;simp only[cond_true]at he;simp only[ZWT]at hok;obtain⟨hp,hw⟩:=hok
     let r:Rc:=⟨q.dst,v,wr,d⟩
     have hmap:done.map (·.d)++[d]=(done++[r]).map (·.d):=by simp[r]
     rw[hmap]at he;obtain⟨rest,h1,h2,h3,h4,h5⟩:=ih us (done++[r]) (ZB fr q.dst v) (ZH h wr) fr' h' he
      (λt=>by
       rw[BS,L8,hf t];simp only[fD,r];by_cases e:q.dst=some t
       .rw[if_pos e,if_pos e];rfl
       .rw[if_neg e,if_neg e];rfl)
      (λb=>by
       rw[BR,BQ h wr hw,<-hh b];cases wr with
       |none=>rfl
       |some p=>
        obtain⟨b',o⟩:=p;dsimp only;by_cases e:b=b'
        .subst e;rw[if_pos rfl];cases hik:d.ik with
         |none=>exact(VL (r:=r) rfl hik _).symm
         |some kv=>
          obtain⟨k,x⟩:=kv;obtain⟨b2,ks,vs,q1,q2⟩:=hex _ _ _ _ _ _ hex' k x hik;cases q1;rw[VM (r:=r) rfl hik,q2];rfl
        .rw[if_neg e];exact(V7 (r:=r) (λ⟨o2,h2⟩=>e<|by cases h2;rfl) _).symm)
      (ZXG hlen<|Rw h wr)
     have hassoc:done++[r]++rest=done++(r::rest):=by simp
     rw[hassoc]at h3 h4 h5;refine⟨r::rest,by simp[h1],ZXG (Rw h wr) h2,?_,h4,h5⟩
     intro i q' hq';cases i with
     |zero=>
      simp only[ZXy,Option.some.injEq]at hq';subst hq';refine⟨fr,h,r,u,by simp,rfl,hex',rfl,hw,Rw h wr,h2,λt=>?_,λb=>?_,hlen,hex _ _ _ _ _ _ hex',?_⟩
      .rw[ZXE,BT];exact hf t
      .rw[ZXE,L9];exact hh b
      .intro j hj;obtain⟨y,hy,hok⟩:=BV hp j hj;rw[ZXJ]at hy;cases hdj:done[j]? with
       |none=>rw[hdj]at hy;cases hy
       |some z=>
        rw[hdj]at hy;simp only[ZXo,Option.some.injEq]at hy;subst hy;have hlt:=(ZXg.1 hdj).1;exact⟨z,by rw[ZXK hlt];exact hdj,by omega,hok⟩
     |succ i=>
      simp only[ZXS]at hq'⊢;have:=h3 i q' hq';have hl:(done++[r]).length+i=done.length+(i+1):=by simp;omega
      rw[hl]at this;exact this
   .cases he
def BX{ex:AOper->Fr->Hp->Option (AV×DRec×Option (Nat×AObj))}(hex:∀q fr h v d wr,ex q fr h=some (v,d,wr)->U1 d wr h){fr0:Fr}{h0:Hp}{qs:List AOper}{us:List (List Nat)}{fr':Fr}{h':Hp}(he:QH ex qs us fr0 h0 []=some (fr',h')):
 ∃rc,Run ex fr0 h0 qs us rc fr' h':=by
 obtain⟨rest,h1,h2,h3,h4,h5⟩:=BW ex hex fr0 h0 qs us [] fr0 h0 fr' h' he (λt=>rfl) (λb=>rfl)<|ZX0 _
 refine⟨rest,h1,?_,by simpa using h4,by simpa using h5,h2⟩
 intro i q hq;have:=h3 i q hq;simpa using this
variable {P:Program} {E:Env} {T:Ty} {X:Xt} {w:World} {h:Hp} {fr:Fr} {a:Act}
def BY{ms:List Nat}{j:Nat}:∀(es:List Edge)(m:Nat),
 (es.foldl (λm e=>bif Region.binds .any e then(m ||| (1 <<< e.on)) ||| (ms.getD e.on 0)else m) m).testBit j=true->
 m.testBit j=true\/∃e∈es,Region.binds .any e=true/\(j=e.on\/(ms.getD e.on 0).testBit j=true):=by
 intro es;induction es with
 |nil=>intro m hm;exact .inl hm
 |cons e es ih=>
  intro m hm;simp only[ZYe]at hm;rcases ih _ hm with h1|⟨e',h1,h2,h3⟩
  .cases hb:Region.binds .any e with
   |false=>rw[hb,cond_false]at h1;exact .inl h1
   |true=>
    rw[hb,cond_true]at h1;simp only[Nat.testBit_or,ZYy]at h1;rcases h1 with(h1|h1)|h1
    .exact .inl h1
    .refine .inr ⟨e,by simp,hb,.inl ?_⟩
     rw[Nat.one_shiftLeft,Nat.testBit_two_pow]at h1;exact(of_decide_eq_true h1).symm
    .exact .inr ⟨e,by simp,hb,.inr h1⟩
  .exact .inr ⟨e',by simp[h1],h2,h3⟩
def BZ:∀(os:List Oper)(ms:List Nat),∃r,YS os ms=ms++r/\r.length=os.length:=by
 intro os;induction os with
 |nil=>intro ms;exact⟨[],by simp[YS],rfl⟩
 |cons o os ih=>
  intro ms;obtain⟨r,h1,h2⟩:=ih<|ms++[KM ms o];exact⟨KM ms o::r,by simp[YS,h1],by simp[h2]⟩
def Ta:∀(os:List Oper)(ms:List Nat)(k:Nat)(o:Oper),os[k]?=some o->∃pre r,(YS os ms)=pre++KM pre o::r/\pre.length=ms.length+k:=by
 intro os;induction os with
 |nil=>intro ms k o hk;simp at hk
 |cons o' os ih=>
  intro ms k o hk;cases k with
  |zero=>
   simp only[ZXy,Option.some.injEq]at hk;subst hk;obtain⟨r,h1,h2⟩:=BZ os<|ms++[KM ms o'];exact⟨ms,r,by simp[YS,h1],rfl⟩
  |succ k=>
   simp only[ZXS]at hk;obtain⟨pre,r,h1,h2⟩:=ih (ms++[KM ms o']) k o hk;exact⟨pre,r,by simp[YS,h1],by simp at h2;omega⟩
def Closed(ops:Array Oper)(S:Nat->Bool):Prop:=∀i o,ops[i]?=some o->S i=true->∀e∈o.after,Region.binds .any e=true->S e.on=true
def Gu{ops:Array Oper}{S:Nat->Bool}(hc:Closed ops S):∀(i:Nat)(o:Oper),ops[i]?=some o->(∀e∈o.after,Region.binds .any e=true->S e.on=true)->∀j,((YS ops.toList []).getD i 0).testBit j=true->S j=true:=by
 intro i;induction i using Nat.strongRecOn with
 |_ i ih=>
  intro o ho he j hj;obtain⟨pre,r,h1,h2⟩:=Ta ops.toList [] i o<|by simpa using ho
  simp only[ZXt,ZXf]at h2;rw[h1,ZYW,ZY0 (by omega),h2,Nat.sub_self]at hj
  simp only[ZXy,ZYK]at hj;rcases BY _ _ hj with h3|⟨e,h3,h4,h5⟩
  .simp at h3
  .have hSe:=he e (by simpa using h3) h4
   rcases h5 with rfl|h5
   .exact hSe
   .by_cases hlt:e.on<i
    .cases hoe:ops[e.on]? with
     |none=>
      have hge:ops.size<=e.on:=by
       rcases ZY9 e.on ops.size with hx|hx
       .rw[ZXH hx]at hoe;cases hoe
       .exact hx
      have hi:=(ZXN.1 ho).1;omega
     |some oe=>
      refine ih e.on hlt oe hoe (hc e.on oe hoe hSe) j ?_;rw[h1,ZYW,ZXK (by omega),<-ZYW]
      exact h5
    .rw[ZYW,ZXQ<|by omega]at h5
     simp at h5
def La{fr fr2:Fr}{x:Arg}(hh:∀t∈x.slots,get fr t=get fr2 t):ev E fr x=ev E fr2 x:=by
 cases x<;>first|rfl|exact hh _<|by simp[Arg.slots]
def Lb{fr fr2:Fr}:∀{xs:List Arg},(∀t∈Xp xs,get fr t=get fr2 t)->xs.map (ev E fr)=xs.map (ev E fr2):=by
 intro xs;induction xs with
 |nil=>intro _;rfl
 |cons x xs ih=>
  intro hh;simp only[ZX3];rw[La (x:=x)<|λt ht=>hh t<|by simp[Xp,ht],ih<|λt ht=>hh t<|by simp[Xp,ht]]
def Tb{aid aid' sz:Nat}{fz:Bool}{all:List AV}{rs:List Nat}{r:Zt}(he:Yp aid fz sz all rs=some r)(hn:r.2.2.map (·.1)≠some aid):Yp aid' fz sz all rs=some r:=by
 unfold Yp at he⊢;cases fz
 .simp only[cond_false,Option.some.injEq]at he;subst he;simp at hn
 .exact he
def Tc{aid aid' sz bytes:Nat}{fz:Bool}{s x:AV}{r:Zt}(he:Qt h aid fz sz bytes s x=some r)(hn:r.2.2.map (·.1)≠some aid):Qt h aid' fz sz bytes s x=some r:=by
 unfold Qt at he⊢;cases h1:Q2 h s with
 |none=>rw[h1]at he;cases he
 |some es=>
  cases h2:Q2 h x with
  |none=>rw[h1,h2]at he;cases he
  |some ys=>
   rw[h1,h2]at he;dsimp only at he⊢;split at he
   .next hc=>
    rw[if_pos hc];cases hy:ys.isEmpty with
    |true=>rw[hy]at he;exact he
    |false=>
     rw[hy]at he;rw[cond_false]at he⊢;split at he<;>first|exact Tb he hn|exact he|cases he
   .cases he
def Td{aid aid':Nat}{op:AOp}{r:Zt}(he:Z8 E fr h aid op=some r)(hn:r.2.2.map (·.1)≠some aid):Z8 E fr h aid' op=some r:=by
 cases op<;>try exact he
 case own sz=>simp only[Z8,Option.some.injEq]at he;subst he;simp at hn
 case mkm=>simp only[Z8,Option.some.injEq]at he;subst he;simp at hn
 case box sz x=>
  simp only[Z8]at he;cases hf:fits sz (ev E fr x)<;>rw[hf]at he
  .cases he
  .simp only[cond_true,Option.some.injEq]at he;subst he;simp at hn
 case ibox sz x=>
  simp only[Z8]at he⊢;cases hf:fits sz (ev E fr x)<;>rw[hf]at he
  .cases he
  .cases hc:Z4 (ev E fr x).cells<;>cases hr:Zi (ev E fr x).cells<;>rw[hc,hr]at he
   .simp only[cond_true,cond_false,Option.some.injEq]at he;subst he;simp at hn
   .exact he
   .exact he
   .exact he
 case bsl fz ex sz z len ps=>
  simp only[Z8]at he⊢;split at he
  .next es hes=>
   cases hf:fits sz z<;>rw[hf]at he
   .cases he
   .cases fz
    .simp only[cond_true,cond_false,Option.some.injEq]at he;subst he;simp at hn
    .exact he
  .cases he
 case mks sz z bytes len cap=>
  simp only[Z8]at he;split at he
  .split at he
   .simp only[Option.some.injEq]at he;subst he;simp at hn
   .cases he
  .cases he
 case rng x=>
  simp only[Z8]at he;split at he
  .simp only[Option.some.injEq]at he;subst he;simp at hn
  .cases he
 case app fz sz bytes s x=>exact Tc he hn
 case apr sz bytes s x=>
  simp only[Z8]at he⊢;cases hap:Qt h aid false sz bytes (ev E fr s) (ev E fr x)with
  |none=>rw[hap]at he;cases he
  |some r0=>
   rw[hap]at he;have h2:r0.2.2.map (·.1)≠some aid:=by
    obtain⟨v,rs,wr⟩:=r0;intro hh;cases wr with
    |none=>cases hh
    |some p=>
     obtain⟨b',o⟩:=p;simp only[ZXo,Option.some.injEq]at hh;subst hh;unfold ZvE at he;dsimp only at he;split at he
     .next heq=>
      simp only[Prod.mk.injEq,Option.some.injEq]at heq;obtain⟨rfl,rfl,rfl,rfl⟩:=heq;simp only[cond]at he;split at he
      .rename_i hc;cases he;simp only[ZWT,beq_iff_eq]at hc;exact hn<|by rw[hc.1];rfl
      .cases he
     .next heq=>simp at heq
     .next heq=>simp at heq
     .cases he
   rw[Tc hap h2];exact he
def Te{h':Hp}{n:Nat}{args as:List AV}(hl:Zi args=true\/Le h h')(he:(bif Z4 args then some args else ZC true h n args)=some as):(bif Z4 args then some args else ZC true h' n args)=some as:=by
 cases hc:Z4 args with
 |true=>rw[hc]at he;exact he
 |false=>
  rw[hc]at he;rw[cond_false]at he⊢;rcases hl with hl|hl
  .rw[KP (h:=h') (h':=h) n args hl];exact he
  .exact Wy hl n args as he
def Tf{h':Hp}{args as:List AV}(hl:Zi args=true\/Le h h')(he:Ql h args=some as):Ql h' args=some as:=Te (n:=40) hl he
def ZR1{bw:Bool}{h h':Hp}(n:Nat)(v:AV)(hs:so1 h v=true)(hb:∀b∈sh1 v,∀o,h[b]?=some o->h'[b]?=some o):freeze bw h n v=freeze bw h' n v:=by
 cases v with
 |sl b g off len ex=>
  cases n with
  |zero=>simp[freeze]
  |succ n=>
   have hs':shr h b=true:=hs;unfold shr at hs';cases hr:h[b]? with
   |none=>rw[hr]at hs';cases hs'
   |some o=>
    have h2:=hb b (by simp[sh1]) o hr
    rw[hr]at hs';cases o with
    |row sz es=>
     have hq:Zi ((es.drop off).take len)=true:=KF.2 λc hc=>KF.1 (XW es hs') c<|ZYJ<|ZYl hc
     simp only[freeze,hr,h2,KP (h:=h) (h':=h') n _ hq]
    |_=>cases hs'
 |_=>exact MU n _ hs
def ZR2{bw:Bool}{h h':Hp}:∀(n:Nat)(l:List AV),ZOH h l=true->(∀b∈ZOG l,∀o,h[b]?=some o->h'[b]?=some o)->ZC bw h n l=ZC bw h' n l
 |0,l,_,_=>by cases l<;>simp[ZC]
 |n+1,[],_,_=>by simp[ZC]
 |n+1,v::r,hs,hb=>by
  simp only[ZOH,ZWT]at hs;simp only[ZOG,ZXF]at hb;simp only[ZC,ZR1 n v hs.1<|λb h1=>hb b<|.inl h1,ZR2 n r hs.2<|λb h1=>hb b<|.inr h1]
def ZSn{bw:Bool}{h h':Hp}(n:Nat)(v:AV)(hs:so2 h v=true)(hb:∀b∈sh2 v,∀o,h[b]?=some o->h'[b]?=some o):freeze bw h n v=freeze bw h' n v:=by
 cases v with
 |agg cs=>
  cases n with
  |zero=>simp[freeze]
  |succ n=>simp only[freeze,ZR2 n cs hs hb]
 |_=>exact ZR1 n _ hs hb
def ZR3{bw:Bool}{h h':Hp}:∀(n:Nat)(l:List AV),ZOl h l=true->(∀b∈ZOz l,∀o,h[b]?=some o->h'[b]?=some o)->ZC bw h n l=ZC bw h' n l
 |0,l,_,_=>by cases l<;>simp[ZC]
 |n+1,[],_,_=>by simp[ZC]
 |n+1,v::r,hs,hb=>by
  simp only[ZOl,ZWT]at hs;simp only[ZOz,ZXF]at hb;simp only[ZC,ZSn n v hs.1<|λb h1=>hb b<|.inl h1,ZR3 n r hs.2<|λb h1=>hb b<|.inr h1]
def ZSo{h h':Hp}{args as:List AV}(hs:ZOl h args=true)(hb:∀b∈ZOz args,∀o,h[b]?=some o->h'[b]?=some o)(he:Ql h args=some as):Ql h' args=some as:=by
 unfold Ql at he⊢;rw[<-ZR3 40 args hs hb];exact he
def ZSp(h:Hp)(args:List AV):(ZOd h args).ik=none:=by
 unfold ZOd cRc;cases Zi args with
 |true=>rfl
 |false=>cases ZOl h args<;>rfl
def ZSq(h:Hp)(args:List AV):(ZOd h args).wr=none:=by
 unfold ZOd cRc;cases Zi args with
 |true=>rfl
 |false=>cases ZOl h args<;>rfl
def Lc{k f:Nat}{args:List AV}{h2 h':Hp}{v:AV}(hl:∀as,Ql h args=some as->Ql h' args=some as)(he:Qm E k true f args h=some (v,h2)):h2=h/\Qm E k true f args h'=some (v,h'):=by
 cases k with
 |zero=>simp[Qm]at he
 |succ k=>
  simp only[Qm]at he⊢;cases has:Ql h args with
  |none=>rw[has]at he;cases he
  |some as=>
   rw[has]at he;rw[hl _ has];dsimp only at he⊢;cases hr:Qz E k f as []with
   |none=>rw[hr]at he;cases he
   |some p=>
    obtain⟨u,h3⟩:=p;rw[hr]at he;dsimp only at he⊢;cases hx:YE h3 u with
    |none=>rw[hx]at he;cases he
    |some x=>
     rw[hx]at he;cases he;exact⟨rfl,rfl⟩
end Go.AM
