/- The abstract machine and its soundness, part 3: what it computes, the program computes. No condition. -/
import Derived.Test.YtmmfbjlenjnckaaGreatDoorQ2
import Derived.OrdersIn
import Derived.Sort.Grow
import Derived.Deep.Draws
set_option linter.unusedVariables false
set_option linter.defProp false
set_option linter.unusedSimpArgs false
set_option linter.unusedSectionVars false
namespace Go.AM
open Go
variable [Dr]
variable {P:Program} {E:Env} {T:Ty} {X:Xt} {w:World} {h:Hp} {fr:Fr} {a:Act}
def Gv{k:Nat}{q:AOper}{v:AV}{d:DRec}{wr:Option (Nat×AObj)}(hn:q.op.isCall=false)(hw:ZJ fr q.guard=some true)(he:Zk E (k+1) q fr h=some (v,d,wr)):
 Z8 E (Z2 q.op.slots fr) h h.length q.op=some (v,(Z8 E (Z2 q.op.slots fr) h h.length q.op).get!.2.1,wr)/\d=QG E (Z2 q.op.slots fr) h q.op wr:=by
 obtain⟨dst,op,g⟩:=q;simp only[Zk,hw]at he;cases op<;>first
  |(simp[AOp.isCall]at hn;done)
  |(simp only[ZXi]at he
    obtain⟨⟨v',rs,wr'⟩,h1,h2⟩:=he;simp only[Prod.mk.injEq]at h2;obtain⟨rfl,rfl,rfl⟩:=h2;exact⟨by rw[h1];rfl,rfl⟩)
def ZGC{s:List AV->Nat->List AV->Option (List AV)}{hS:Hp}{args:List AV}{r:AV×Option (Nat×AObj)}(he:ZE8 s h args=some r)(hb:∀b∈ZEZ args,∀o,h[b]?=some o->hS[b]?=some o):ZE8 s hS args=some r:=by
 unfold ZE8 at he⊢;split at he
 .rename_i b g off len ex l;cases ho:h[b]? with
  |none=>rw[ho]at he;cases he
  |some o=>
   rw[ho]at he;rw[hb b (by simp[ZEZ]) o ho]
   exact he
 .exact he
 .rename_i b l;split at he
  .rename_i o1 o2 o3;rw[hb b (by simp[ZEZ]) _ o1,hb (b+1) (by simp[ZEZ]) _ o2,hb (b-1) (by simp[ZEZ]) _ o3]
   exact he
  .cases he
 .cases he
def Lf{k:Nat}(ih:AllOk P E k){q:AOper}{v:AV}{d:DRec}{wr:Option (Nat×AObj)}(he:Zk E (k+1) q fr h=some (v,d,wr)){frS:Fr}{hS:Hp}
 (hread:∀t∈q.reads,get frS t=get fr t) (hcl:q.op.isCall=true->∀(b:Nat)(o:AObj),h[b]?=some o->(d.all=true\/b∈d.rs)->hS[b]?=some o) {wrS:Option (Nat×AObj)}
 (hev:q.op.isCall=false->ZJ fr q.guard=some true->∃rs aid,aid<=hS.length/\T aid=none/\Z8 E (Z2 q.op.slots fr) hS aid q.op=some (v,rs,wrS))
 (hnw:(q.op.isCall=true\/ZJ fr q.guard=some false)->wrS=wr)
 {N:Nat} {ops:Array Oper} {o:Oper} {base sz:Nat} {ro:Option Nat} {n:Nat} (hcr:X.cr=Chk P) (hN:N<=sz) (hc:X6 P N ops o q=true) (s:St E T X hS w frS base sz a) (next:Act->World->Prop) (Q:Exit->Act->World->Prop)
 (hn:∀T' a' w',Step T w T' w'->St E T' X (ZH hS wrS) w' (ZB frS q.dst v) base sz a'->next a' w'):
 if Region.wanted o (yielded ops a.tmps)=true then o.wpIn (Qa ro) n P a w next Q else(∀f,o.about P w a.eval=some f->(Qa ro).fn f)/\next (a.put o.dst undef) w:=by
 simp only[X6,ZWT]at hc;obtain⟨⟨hd,hg⟩,hop⟩:=hc;have hNs:N<=a.tmps.size:=by rw[s.sz];exact hN
 have hwS:ZJ frS q.guard=ZJ fr q.guard:=by
  unfold ZJ;cases hqg:q.guard with
  |none=>rfl
  |some p=>
   obtain⟨t,b⟩:=p;dsimp only;rw[hread t<|by simp[AOper.reads,hqg,MN]]
 have hslot:∀t∈q.op.slots,get frS t=get fr t:=λt ht=>hread t<|by simp[AOper.reads,ht]
 cases hw:ZJ fr q.guard with
 |none=>simp[Zk,hw]at he
 |some b=>
  rw[hw]at hwS;rw[MM s.f hNs hg hwS];cases b with
  |false=>
   simp only[Zk,hw,Option.some.injEq,Prod.mk.injEq]at he;obtain⟨rfl,rfl,rfl⟩:=he;cases hnw (.inr hw);rw[if_neg<|by simp]
   exact⟨λ_ _=>VK _ _,hn T _ w (.refl _ _)<|Gi s hN hd (.refl _ _) s.c.m ⟨#[],rfl,rfl⟩⟩
  |true=>
   rw[if_pos rfl];refine⟨λ_ _=>VK _ _,?_⟩
   have hput:∀{rv:Value}{T':Ty}{w':World},Step T w T' w'->M T' X (ZH hS wrS) w'->R T' X w' v rv->next (a.put o.dst rv) w':=by
    intro rv T' w' st m hv;exact hn T' _ w' st<|Gi s hN hd st m hv
   cases hcall:q.op.isCall with
   |false=>
    have hop:Gb P o.op q.op=true:=by
     obtain⟨dst,op,gd⟩:=q;cases op<;>first|exact hop|cases hcall
    have hnd:∀c,o.op≠.defer c:=λc e=>by rw[e,L0]at hop;cases hop
    rw[Oper.semAt_eq _ _ _ hnd];have hfrr:FrR T X w (Z2 q.op.slots fr) a.tmps:=by
     intro t;rw[L3];split
     .next ht=>rw[<-hslot t ht];exact s.f t
     .trivial
    obtain⟨rs,aid,k1,k2,k3⟩:=hev hcall hw;obtain⟨T',w',rv,hrun,st,m',hv⟩:=MZ s.c hfrr k1 k2 hop k3;rcases hrun with hrun|⟨hrun,rfl⟩
    .rw[hrun];exact hput st m' hv
    .rw[hrun];exact hput st m' hv
   |true=>
    cases hnw (.inl hcall);have htouch:=hcl hcall;obtain⟨dst,op,gd⟩:=q;cases op<;>try (simp[AOp.isCall]at hcall;done)
    case apa sz1 bytes x1 x2=>simp[Zk,hw,Z8]at he
    case call p f args=>
     have hop:Wx o.op (.call p f args)=true:=hop;simp only[Zk,hw]at he;cases p with
     |false=>
      rw[cond_false]at he;cases hrs:E.rs f with
      |none=>rw[hrs]at he;cases he
      |some sf=>
       rw[hrs]at he;simp only[ZEn,ZXi,Prod.mk.injEq]at he;obtain⟨⟨v',wr'⟩,hr,rfl,rfl,rfl⟩:=he;have hargs:args.map (ev E frS)=args.map (ev E fr):=Lb hslot;have hr2:ZE8 sf hS (args.map<|ev E frS)=some (v',wr'):=by
        rw[hargs];refine ZGC hr λb hb o ho=>htouch b o ho<|.inr hb
       cases ho:o.op<;>rw[ho]at hop<;>try (simp[Wx]at hop;done)
       next c=>
       simp only[Wx,ZWT]at hop;obtain⟨hcal,hca⟩:=hop;rw[Oper.semAt_eq _ _ _<|λc e=>by rw[ho]at e;cases e]
       have hcal':c.callee=.value (.func f):=by
        split at hcal
        .next g hcl=>rw[hcl];simp at hcal;rw[hcal]
        .cases hcal
       have hrun:(execOp a.eval o).run P w=(callFunc f<|(#[]++c.args.map a.eval)++#[]).run P w:=by
        simp only[execOp,ho,resolve,hcal',Act.eval,Deferred.ofValue,Sem.run_bind,Sem.run_pure,Result.andThen_ok,invoke]
       rw[hrun];have hrr:=VF (a:=a) s.c.gl s.f hca;have:=ih.rsum f sf hrs _ hS v' wr' hr2 T X w ((#[]++c.args.map a.eval)++#[]) hcr s.c<|by simpa using hrr
       refine this.upon ?_;rintro rv w' ⟨T',st,m',hv⟩;exact hput st m' hv
     |true=>
      rw[cond_true]at he;split at he
      .next v' h2 hr=>
       simp only[Option.some.injEq,Prod.mk.injEq]at he;obtain⟨rfl,rfl,rfl⟩:=he;have hle:∀as,Ql h (args.map<|ev E fr)=some as->Ql hS (args.map<|ev E fr)=some as:=by
        cases hnr:Zi (args.map<|ev E fr)with
        |true=>exact λas=>Tf<|.inl hnr
        |false=>
         cases hso:ZOl h (args.map<|ev E fr)with
         |true=>exact λas=>ZSo hso<|λb hb ob ho=>htouch b ob ho<|.inr<|by unfold ZOd cRc;rw[hnr];dsimp only;rw[hso];exact hb
         |false=>exact λas=>Tf<|.inr λb ob hb=>htouch b ob hb<|.inl<|by unfold ZOd cRc;rw[hnr];dsimp only;rw[hso];rfl
       obtain⟨_,hr2⟩:=Lc hle hr;have hargs:args.map (ev E frS)=args.map (ev E fr):=Lb hslot;rw[<-hargs]at hr2;cases ho:o.op<;>rw[ho]at hop<;>try (simp[Wx]at hop;done)
       next c=>
       simp only[Wx,ZWT]at hop;obtain⟨hcal,hca⟩:=hop;rw[Oper.semAt_eq _ _ _<|λc e=>by rw[ho]at e;cases e]
       have hcal':c.callee=.value (.func f):=by
        split at hcal
        .next g hcl=>rw[hcl];simp at hcal;rw[hcal]
        .cases hcal
       have hrun:(execOp a.eval o).run P w=(callFunc f<|(#[]++c.args.map a.eval)++#[]).run P w:=by
        simp only[execOp,ho,resolve,hcal',Act.eval,Deferred.ofValue,Sem.run_bind,Sem.run_pure,Result.andThen_ok,invoke]
       rw[hrun];have hrr:=VF (a:=a) s.c.gl s.f hca;have:=ih.call true f _ hS v' hS hr2 T X w ((#[]++c.args.map a.eval)++#[]) hcr s.c<|by simpa using hrr
       refine this.upon ?_;rintro rv w' ⟨T',st,m',hv⟩;exact hput st m' hv
      .cases he
    case callv p x args=>
     have hop:Wx o.op (.callv p x args)=true:=hop;simp only[Zk,hw]at he;cases p with
     |false=>cases he
     |true=>
      rw[cond_true]at he;split at he
      .next g first cap hx=>
       split at he
       .next v' h2 hr=>
        simp only[Option.some.injEq,Prod.mk.injEq]at he;obtain⟨rfl,rfl,rfl⟩:=he;have hle:Zi (first++args.map (ev E fr)++cap)=true\/Le h hS:=by
         cases hnr:Zi (first++args.map (ev E fr)++cap)with
         |true=>exact .inl rfl
         |false=>exact .inr λb ob hb=>htouch b ob hb<|.inl<|by rw[hnr];rfl
        obtain⟨_,hr2⟩:=Lc (λas=>Tf hle) hr
        have hargs:args.map (ev E frS)=args.map (ev E fr):=Lb<|λt ht=>hslot t<|by simp[AOp.slots,ht]
        have hxS:ev E frS x=ev E fr x:=La<|λt ht=>hslot t<|by simp[AOp.slots,ht]
        rw[<-hargs]at hr2;cases ho:o.op<;>rw[ho]at hop<;>try (simp[Wx]at hop;done)
        next c=>
        simp only[Wx,ZWT]at hop;obtain⟨hcal,hca⟩:=hop;rw[Oper.semAt_eq _ _ _<|λc e=>by rw[ho]at e;cases e]
        split at hcal
        .next y hcl=>
         have hrun:(execOp a.eval o).run P w=(do let d <-Deferred.ofValue (a.eval y) (c.args.map a.eval);invoke d.target d.args:Sem Next).run P w:=by
          simp only[execOp,ho,resolve,hcl]
         have hfv:=evR s.c.gl s.f hcal;rw[hxS,hx]at hfv;obtain⟨f1,c1,hfe,q1,q2⟩:=hfv;have hrun2:(do let d <-Deferred.ofValue (.func (.func g) f1 c1) (c.args.map a.eval);invoke d.target d.args:Sem Next).run P w=(callFunc g<|(f1++c.args.map a.eval)++c1).run P w:=by
          simp only[Deferred.ofValue,Sem.run_bind,Sem.run_pure,Result.andThen_ok,invoke]
         rw[hrun,hfe,hrun2];have hrr:=VF (a:=a) s.c.gl s.f hca;have hall:=QR (QR q1 hrr) q2;have:=ih.call true g _ hS v' hS hr2 T X w ((f1++c.args.map a.eval)++c1) hcr s.c<|by simpa using hall
         refine this.upon ?_;rintro rv w' ⟨T',st,m',hv⟩;exact hput st m' hv
        .cases hcal
       .cases he
      .cases he
def Tg{op:AOp}{p:AV×AV}(hk:Wm E fr h op=some p):∃ag kk m k v b ks vs,op=.ins ag kk m k v/\ev E fr m=.mp b/\h[b]?=some (.map ks vs)/\ZW ag kk (ev E fr k) ks 0=some none/\p=(ev E fr k,ev E fr v):=by
 cases op<;>simp only[Wm,reduceCtorEq]at hk
 case ins ag kk m k v=>
  split at hk
  .next b hm=>
   split at hk
   .next ks vs hb=>
    split at hk
    .next hf=>
     cases hn:YF (ev E fr k) (ev E fr k)with
     |true=>rw[hn]at hk;cases hk
     |false=>
      rw[hn]at hk;simp only[cond_false,Option.some.injEq]at hk;exact⟨ag,kk,m,k,v,b,ks,vs,rfl,hm,hb,hf,hk.symm⟩
    .cases hk
   .cases hk
  .cases hk
def Th{op:AOp}{wr:Option (Nat×AObj)}(hk:(QG E fr h op wr).ik=none):QG E fr h op wr=⟨false,opT E fr op,wr.map (·.1),none⟩:=by
 cases hi:Wm E fr h op with
 |none=>simp only[QG,hi]
 |some p=>simp[QG,hi]at hk
def Ti{op:AOp}{wr:Option (Nat×AObj)}{p:AV×AV}(hk:(QG E fr h op wr).ik=some p):Wm E fr h op=some p/\QG E fr h op wr=⟨false,[],wr.map (·.1),some p⟩:=by
 cases hi:Wm E fr h op with
 |none=>simp[QG,hi]at hk
 |some q=>
  simp only[QG,hi,Option.some.injEq]at hk;subst hk;exact⟨rfl,by simp only[QG,hi]⟩
def Tj{ag:Bool}{kk:List Nat}{b:Nat}{ks vs:List AV}{k v:AV}{r:Zt}(hf:ZW ag kk k ks 0=some none)(he:Yo ag kk b ks vs k v=some r):
 (∃e,Zz ag kk k k=some e)/\r=(.bot,[b],some (b,.map (ks++[k])<|vs++[v])):=by
 unfold Yo at he;rw[hf]at he;cases hq:Zz ag kk k k with
 |none=>rw[hq]at he;cases he
 |some e=>rw[hq]at he;cases he;exact⟨⟨e,rfl⟩,rfl⟩
def Lg{k:Nat}{q:AOper}{v:AV}{d:DRec}{wr:Option (Nat×AObj)}(he:Zk E k q fr h=some (v,d,wr)){kx vx:AV}(hik:d.ik=some (kx,vx)):
 ∃ag kk m ka va b ks vs e,q.op=.ins ag kk m ka va/\ZJ fr q.guard=some true/\ev E (Z2 q.op.slots fr) m=.mp b/\kx=ev E (Z2 q.op.slots fr) ka/\vx=ev E (Z2 q.op.slots fr) va/\h[b]?=some (.map ks vs)/\ZW ag kk kx ks 0=some none/\
  Zz ag kk kx kx=some e/\v=.bot/\wr=some (b,.map (ks++[kx])<|vs++[vx])/\d=⟨false,[],some b,some (kx,vx)⟩:=by
 cases k with
 |zero=>simp[Zk]at he
 |succ k=>
  cases hw:ZJ fr q.guard with
  |none=>simp[Zk,hw]at he
  |some bb=>
   cases bb with
   |false=>
    simp only[Zk,hw,Option.some.injEq,Prod.mk.injEq]at he;obtain⟨_,rfl,_⟩:=he;cases hik
   |true=>
    cases hc:q.op.isCall with
    |true=>
     exfalso;obtain⟨dst,op,g⟩:=q;cases op<;>try (simp[AOp.isCall]at hc;done)
     case apa sz1 bytes x1 x2=>simp[Zk,hw,Z8]at he
     case call p f args=>
      simp only[Zk,hw]at he;cases p with
      |false=>
       rw[cond_false]at he;cases hrs:E.rs f with
       |none=>rw[hrs]at he;cases he
       |some sf=>
        rw[hrs]at he;simp only[ZEn,ZXi,Prod.mk.injEq]at he;obtain⟨_,_,_,rfl,_⟩:=he;cases hik
      |true=>
       rw[cond_true]at he;split at he
       .cases he;rw[ZSp]at hik;cases hik
       .cases he
     case callv p x args=>
      simp only[Zk,hw]at he;cases p with
      |false=>cases he
      |true=>
       rw[cond_true]at he;split at he
       .split at he
        .cases he;cases hik
        .cases he
       .cases he
    |false=>
     obtain⟨h1,h2⟩:=Gv hc hw he;subst h2;obtain⟨k1,k2⟩:=Ti hik;obtain⟨ag,kk,m,ka,va,b,ks,vs,q1,q2,q3,q4,q5⟩:=Tg k1;cases q5;generalize(Z8 E (Z2 q.op.slots fr) h h.length q.op).get!.2.1=rs at h1;have h1':=h1;rw[q1]at h1';rw[q1]at q2 q4;simp only[Z8,q2,q3]at h1';obtain⟨⟨e,q6⟩,q7⟩:=Tj q4 h1';simp only[Prod.mk.injEq]at q7;obtain⟨rfl,rfl,rfl⟩:=q7;rw[<-q1]at q2 q4 q6;exact⟨ag,kk,m,ka,va,b,ks,vs,e,q1,rfl,q2,by rw[q1],by rw[q1],q3,by rw[q1]at q4⊢;exact q4,by rw[q1]at q6⊢;exact q6,rfl,by rw[q1],by rw[k2,q1];rfl⟩
def Tk{k:Nat}(q:AOper)(fr:Fr)(h:Hp)(v:AV)(d:DRec)(wr:Option<|Nat×AObj)(he:Zk E k q fr h=some (v,d,wr)):U1 d wr h:=by
 intro kx vx hik;obtain⟨_,_,_,_,_,b,ks,vs,_,_,_,_,_,_,hb,_,_,_,hw,_⟩:=Lg he hik;exact⟨b,ks,vs,hw,hb⟩
def Tl{k:Nat}(ih:AllOk P E k){q:AOper}{v:AV}{d:DRec}{wr:Option (Nat×AObj)}(he:Zk E (k+1) q fr h=some (v,d,wr))(hik:d.ik=none){frS:Fr}{hS:Hp}
 (hread:∀t∈q.reads,get frS t=get fr t) (htouch:∀(b:Nat)(o:AObj),h[b]?=some o->(d.all=true\/b∈d.rs)->hS[b]?=some o) (hlen:h.length<=hS.length)
 (hal:∀o,wr=some (h.length,o)->hS[h.length]?=none\/hS[h.length]?=some .dead)
 {N:Nat} {ops:Array Oper} {o:Oper} {base sz:Nat} {ro:Option Nat} {n:Nat} (hcr:X.cr=Chk P) (hN:N<=sz) (hc:X6 P N ops o q=true) (s:St E T X hS w frS base sz a) (next:Act->World->Prop) (Q:Exit->Act->World->Prop)
 (hn:∀T' a' w',Step T w T' w'->St E T' X (ZH hS wr) w' (ZB frS q.dst v) base sz a'->next a' w'):
 if Region.wanted o (yielded ops a.tmps)=true then o.wpIn (Qa ro) n P a w next Q else(∀f,o.about P w a.eval=some f->(Qa ro).fn f)/\next (a.put o.dst undef) w:=by
 refine Lf ih he hread (λ_ b o hb hall=>htouch b o hb hall) (wrS:=wr) ?_ (λ_=>rfl) hcr hN hc s next Q hn
 .intro hcall hw;obtain⟨h1,h2⟩:=Gv hcall hw he;have h2':=h2;rw[Th<|by rw[<-h2];exact hik]at h2'
  have h3:Z8 E (Z2 q.op.slots fr) hS h.length q.op=Z8 E (Z2 q.op.slots fr) h h.length q.op:=by
   refine Bv λb hb=>?_
   obtain⟨ob,hob⟩:=Bw h1 b hb;rw[hob];exact htouch b ob hob<|.inr<|by rw[h2'];exact hb
  generalize(Z8 E (Z2 q.op.slots fr) h h.length q.op).get!.2.1=rs at h1;rw[<-h3]at h1;by_cases hwr:wr.map (·.1)=some h.length
  .cases wr with
   |none=>cases hwr
   |some p=>
    obtain⟨b,ob⟩:=p;simp only[ZXo,Option.some.injEq]at hwr;subst hwr;exact⟨rs,h.length,hlen,JR s.c.m<|hal ob rfl,h1⟩
  .exact⟨rs,hS.length,ZX0 _,Gn s.c.m,Td h1 hwr⟩
def Tm{k:Nat}(ih:AllOk P E k){q:AOper}{v:AV}{d:DRec}{wr:Option (Nat×AObj)}(he:Zk E (k+1) q fr h=some (v,d,wr)){kx vx:AV}(hik:d.ik=some (kx,vx)){frS:Fr}{hS:Hp}
 (hread:∀t∈q.reads,get frS t=get fr t) {b:Nat} {o:AObj} (hwr:wr=some (b,o)) {ksS vsS:List AV} (hb:hS[b]?=some (.map ksS vsS))
 (hf:∀ag kk e,Zz ag kk kx kx=some e->(∃ks vs,h[b]?=some (.map ks vs)/\ZW ag kk kx ks 0=some none)->ZW ag kk kx ksS 0=some none)
 {N:Nat} {ops:Array Oper} {op:Oper} {base sz:Nat} {ro:Option Nat} {n:Nat} (hcr:X.cr=Chk P) (hN:N<=sz) (hc:X6 P N ops op q=true) (s:St E T X hS w frS base sz a) (next:Act->World->Prop) (Q:Exit->Act->World->Prop)
 (hn:∀T' a' w',Step T w T' w'->St E T' X (setH hS b<|.map (ksS++[kx])<|vsS++[vx]) w' (ZB frS q.dst v) base sz a'->next a' w'):
 if Region.wanted op (yielded ops a.tmps)=true then op.wpIn (Qa ro) n P a w next Q else(∀f,op.about P w a.eval=some f->(Qa ro).fn f)/\next (a.put op.dst undef) w:=by
 obtain⟨ag,kk,m,ka,va,b',ks,vs,e,q1,q2,q3,q4,q5,q6,q7,q8,q9,q10,q11⟩:=Lg he hik;rw[hwr]at q10;cases q10;have hncall:q.op.isCall=false:=by rw[q1];rfl
 refine Lf ih he hread (λhcall=>by rw[hncall]at hcall;cases hcall) (wrS:=some (b,.map (ksS++[kx])<|vsS++[vx])) ?_ ?_ hcr hN hc s next Q hn
 .intro _ _;refine⟨[b],hS.length,ZX0 _,Gn s.c.m,?_⟩;have hfx:=hf ag kk e q8 ⟨ks,vs,q6,q7⟩;have e1:Z8 E (Z2 q.op.slots fr) hS hS.length (.ins ag kk m ka va)=Yo ag kk b ksS vsS kx vx:=by
   simp only[Z8,q3,hb,<-q4,<-q5]
  have e2:Yo ag kk b ksS vsS kx vx=some (.bot,[b],some (b,.map (ksS++[kx])<|vsS++[vx])):=by
   unfold Yo;rw[q8,hfx]
  have e3:Z8 E (Z2 q.op.slots fr) hS hS.length q.op=Z8 E (Z2 q.op.slots fr) hS hS.length (.ins ag kk m ka va):=by rw[q1]
  rw[e3,e1,e2,q9]
 .rintro(hcall|hw)
  .rw[hncall]at hcall;cases hcall
  .rw[hw]at q2;cases q2
end Go.AM
namespace Go.AM
open Go
variable [Dr]
variable {P:Program} {E:Env} {T:Ty} {X:Xt} {w:World} {h:Hp} {fr:Fr} {a:Act}
def Gw(d:Option AObj):Prop:=∀k v,KT k v d=d
def Lh{S:Nat->Bool}{b:Nat}:∀(rs:List Rc)(i:Nat)(d d':Option AObj),d=d'\/(Gw d/\Gw d')->LF S b i rs d=LF S b i rs d'\/(LF S b i rs d=d/\LF S b i rs d'=d'):=by
 intro rs;induction rs with
 |nil=>intro i d d' _;exact .inr ⟨rfl,rfl⟩
 |cons r rs ih=>
  intro i d d' hd;rcases hd with rfl|⟨h1,h2⟩
  .exact .inl rfl
  .simp only[LF];by_cases hS:S i=true
   .rw[if_pos hS,if_pos hS];by_cases ha:YT b r
    .obtain⟨o,hw⟩:=ha;cases hik:r.d.ik with
     |none=>rw[VL hw hik,VL hw hik];exact .inl rfl
     |some kv=>
      obtain⟨k,v⟩:=kv;rw[VM hw hik,VM hw hik,h1,h2];exact ih (i+1) d d'<|.inr ⟨h1,h2⟩
    .rw[V7 ha,V7 ha];exact ih (i+1) d d'<|.inr ⟨h1,h2⟩
   .rw[if_neg hS,if_neg hS];exact ih (i+1) d d'<|.inr ⟨h1,h2⟩
def Li{S:Nat->Bool}{b:Nat}:∀(rs:List Rc)(i:Nat)(d:Option AObj),(d.isSome=true\/∃k r,rs[k]?=some r/\S (i+k)=true/\YT b r/\r.d.ik=none)->(LF S b i rs d).isSome=true:=by
 intro rs;induction rs with
 |nil=>
  intro i d hh;rcases hh with hh|⟨k,r,hk,_⟩
  .exact hh
  .simp at hk
 |cons r rs ih=>
  intro i d hh;simp only[LF];refine ih (i+1) _ ?_;rcases hh with hh|⟨k,r',hk,hS,⟨o,hw⟩,hik⟩
  .left;split
   .unfold gW;split
    .split
     .split
      .unfold KT;split<;>first|rfl|exact hh
      .rfl
     .exact hh
    .exact hh
   .exact hh
  .cases k with
   |zero=>
    simp only[ZXy,Option.some.injEq]at hk;subst hk;left;rw[ZXE]at hS;rw[if_pos hS,VL hw hik];rfl
   |succ k=>exact .inr ⟨k,r',by simpa using hk,by rw[show i+1+k=i+(k+1)by omega];exact hS,⟨o,hw⟩,hik⟩
def Rx(d0 d:Option AObj):Prop:=d=d0\/d0=none\/∃ks0 vs0 ks vs,d0=some (.map ks0 vs0)/\d=some (.map ks vs)/\∀x∈ks,x∈ks0
def Tn{S0 S:Nat->Bool}{b:Nat}:∀(rs:List Rc)(i:Nat)(d0 d:Option AObj),(∀k r,rs[k]?=some r->YT b r->S0 (i+k)=true/\(S (i+k)=true\/∃p,r.d.ik=some p))->Rx d0 d->Rx (LF S0 b i rs d0) (LF S b i rs d):=by
 intro rs;induction rs with
 |nil=>intro i d0 d _ h;exact h
 |cons r rs ih=>
  intro i d0 d hh hd;simp only[LF];refine ih (i+1) _ _ (λk r' hk ha=>by have:=hh (k+1) r' (by simpa using hk) ha;rw[show i+1+k=i+(k+1)by omega];exact this) ?_
  by_cases ha:YT b r
  .obtain⟨h0,h1⟩:=hh 0 r rfl ha;rw[ZXE]at h0 h1;rw[if_pos h0];obtain⟨o,hw⟩:=ha;cases hik:r.d.ik with
   |none=>
    rcases h1 with h1|⟨p,hp⟩
    .rw[if_pos h1,VL hw hik,VL hw hik];exact .inl rfl
    .rw[hik]at hp;cases hp
   |some kv=>
    obtain⟨k,v⟩:=kv;rw[VM hw hik];split
    .rw[VM hw hik];rcases hd with rfl|rfl|⟨ks0,vs0,ks,vs,rfl,rfl,hs⟩
     .exact .inl rfl
     .exact .inr<|.inl rfl
     .refine .inr (.inr ⟨_,_,_,_,rfl,rfl,λx hx=>?_⟩)
      rcases ZXF.1 hx with hx|hx
      .exact ZXF.2<|.inl<|hs x hx
      .exact ZXF.2<|.inr hx
    .rcases hd with rfl|rfl|⟨ks0,vs0,ks,vs,rfl,rfl,hs⟩
     .cases d with
      |none=>exact .inr<|.inl rfl
      |some ob=>
       cases ob<;>first|exact .inl rfl|exact .inr<|.inr ⟨_,_,_,_,rfl,rfl,λx hx=>ZXF.2<|.inl hx⟩
     .exact .inr<|.inl rfl
     .exact .inr<|.inr ⟨_,_,_,_,rfl,rfl,λx hx=>ZXF.2<|.inl<|hs x hx⟩
  .rw[V7 ha,V7 ha];simpa using hd
def To{S:Nat->Bool}{b:Nat}{Pk:AV->Prop}:∀(rs:List Rc)(i:Nat),(∀k r,rs[k]?=some r->S (i+k)=true->YT b r->∃kx vx,r.d.ik=some (kx,vx)/\Pk kx)->
 ∃K V,K.length=V.length/\(∀x∈K,Pk x)/\∀ks vs,LF S b i rs (some<|.map ks vs)=some (.map (ks++K)<|vs++V):=by
 intro rs;induction rs with
 |nil=>intro i _;exact⟨[],[],rfl,λx hx=>(by cases hx),λks vs=>by simp[LF]⟩
 |cons r rs ih=>
  intro i hh;obtain⟨K,V,h1,h2,h3⟩:=ih (i+1)<|λk r' hk hS ha=>hh (k+1) r' (by simpa using hk) (by rw[show i+(k+1)=i+1+k by omega];exact hS) ha
  by_cases hS:S i=true
  .by_cases ha:YT b r
   .obtain⟨kx,vx,hik,hp⟩:=hh 0 r rfl hS ha;obtain⟨o,hw⟩:=ha;refine⟨kx::K,vx::V,by simp[h1],λx hx=>?_,λks vs=>?_⟩
    .rcases ZXv.1 hx with rfl|hx
     .exact hp
     .exact h2 x hx
    .simp only[LF,hS,if_true,VM hw hik,KT,h3,ZXx,ZZb]
   .exact⟨K,V,h1,h2,λks vs=>by simp only[LF,hS,if_true,V7 ha,h3]⟩
  .exact⟨K,V,h1,h2,λks vs=>by simp only[LF,hS];exact h3 ks vs⟩
def Tp{ag:Bool}{kk:List Nat}{k:AV}:∀{l:List AV}{n:Nat},ZW ag kk k l n=some none↔∀x∈l,Zz ag kk k x=some false:=by
 intro l;induction l with
 |nil=>intro n;simp[ZW]
 |cons a l ih=>
  intro n;simp only[ZW,List.forall_mem_cons];cases he:Zz ag kk k a with
  |none=>simp
  |some b=>
   cases hf:ZW ag kk k l (n+1)with
   |none=>
    simp only[reduceCtorEq,false_iff,not_and];intro _ hall;rw[(ih (n:=n+1)).2 hall]at hf;cases hf
   |some x=>
    cases b with
    |true=>simp
    |false=>
     simp only[cond_false,Option.some.injEq,true_and];rw[<-ih (n:=n+1),hf];simp
def Tq{ag:Bool}{kk:List Nat}{k x:AV}{e:Bool}(he:Zz ag kk k k=some e)(hn:YF x k=true):Zz ag kk k x=some false:=by
 cases ag with
 |true=>cases k<;>first|(simp[Zz]at he;done)|(cases x<;>simp[YF]at hn)
 |false=>
  simp only[Zz]at he⊢;cases kk with
  |nil=>simp[ZE]at he
  |cons c kk=>
   cases kk with
   |cons _ _=>
    simp only[ZE]at he;cases h1:eq1 c k k<;>simp[h1]at he
   |nil=>
    simp only[ZE]at he⊢;cases k<;>cases x<;>(first|(simp[YF]at hn;done)|skip)
    case int.int k1 a j b=>
     simp only[YF,ZWT,decide_eq_true_eq,bne_iff_ne,ne_eq]at hn;obtain⟨rfl,hn⟩:=hn;have hab:(a==b)=false:=by simpa using λe=>hn e.symm
     rcases c with _|_|_|c<;>simp[eq1]at he⊢
     simpa using hab
    case str.str a b=>
     simp only[YF,ZXn]at hn;have hab:Z3 a b=false:=by
      rw[ZY5]at hn⊢;intro e;rw[Ky]at e;exact hn<|by rw[e,Ky]
     rcases c with _|_|_|c<;>simp[eq1]at he⊢
     exact hab
def Gx:∀{as bs:List AV}{us vs:List Value},as.length=us.length->Rs T X w (as++bs) (us++vs)->Rs T X w as us/\Rs T X w bs vs:=by
 intro as;induction as with
 |nil=>
  intro bs us vs hl h;cases us with
  |nil=>exact⟨rfl,h⟩
  |cons _ _=>simp at hl
 |cons a as ih=>
  intro bs us vs hl h;cases us with
  |nil=>simp at hl
  |cons u us=>
   obtain⟨v,vr,h1,h2,h3⟩:=h;simp only[ZXj,List.cons.injEq]at h1;obtain⟨rfl,rfl⟩:=h1;obtain⟨q1,q2⟩:=ih (by simpa using hl) h3
   exact⟨⟨u,us,rfl,h2,q1⟩,q2⟩
def Tr{kA K vA V:List AV}{k v:AV}{c:Option TC}(h1:kA.length=vA.length)(h2:K.length=V.length)(hh:YR T X w (some<|.map ((kA++K)++[k])<|(vA++V)++[v]) c):
 YR T X w (some<|.map (kA++k::K)<|vA++v::V) c:=by
 cases c with
 |none=>exact hh
 |some c=>
  cases c with
  |map r=>
   obtain⟨es,clock,l,q1,q2,q3,q4,q5⟩:=hh;have hlen:=Qr q4;simp only[ZX7,ZXr,ZXt,ZWQ]at hlen;obtain⟨l1,r1,rfl,hl1⟩:∃l1 r1,l=l1++r1/\l1.length=kA.length:=⟨l.take kA.length,l.drop kA.length,(ZXW _ _).symm,by simp;omega⟩
   obtain⟨l2,r2,rfl,hl2⟩:∃l2 r2,r1=l2++r2/\l2.length=K.length:=⟨r1.take K.length,r1.drop K.length,(ZXW _ _).symm,by simp at hlen⊢;omega⟩
   obtain⟨x,rfl⟩:∃x,r2=[x]:=ZZe.1<|by simp at hlen;omega
   simp only[ZX4,ZXx]at q4 q5;obtain⟨p1,p2⟩:=Gx (by simp[hl1]) q4
   obtain⟨p3,p4⟩:=Gx (by simp[hl2]) p2
   obtain⟨p5,p6⟩:=Gx (by simp[hl1,h1]) q5
   obtain⟨p7,p8⟩:=Gx (by simp[hl2,h2]) p6
   refine⟨es,clock,l1++x::l2,q1,?_,?_,?_,?_⟩
   .have hp:List.Perm ((kA++K)++[k]) (kA++k::K):=by
     rw[ZXx];exact List.Perm.append_left kA<|List.perm_append_comm (l₁:=K) (l₂:=[k])
    exact hp.nodup_iff.1 q2
   .refine List.Perm.trans ?_ q3;exact List.Perm.append_left l1<|List.perm_append_comm (l₁:=[x]) (l₂:=l2)
   .simp only[ZX4,ZX3];obtain⟨u,ur,e1,e2,e3⟩:=p4;simp only[ZX3,ZX1,List.cons.injEq]at e1;obtain⟨rfl,rfl⟩:=e1;exact QR p1 ⟨_,_,rfl,e2,p3⟩
   .simp only[ZX4,ZX3];obtain⟨u,ur,e1,e2,e3⟩:=p8;simp only[ZX3,ZX1,List.cons.injEq]at e1;obtain⟨rfl,rfl⟩:=e1;exact QR p5 ⟨_,_,rfl,e2,p7⟩
  |row _ _ _ _ _=>exact hh
  |iter _=>exact hh
  |loop _=>exact hh
def Ts{b:Nat}{kA K vA V:List AV}{k v:AV}(m:M T X (setH h b<|.map ((kA++K)++[k])<|(vA++V)++[v]) w)(hb:b<h.length)(h1:kA.length=vA.length)(h2:K.length=V.length):
 M T X (setH h b<|.map (kA++k::K)<|vA++v::V) w where
 inj:=m.inj
 lt:=m.lt
 notX:=m.notX
 obj b':=by
  have:=m.obj b';rw[Ks h b _<|ZXU hb]at this⊢;by_cases e:b'=b
  .subst e;rw[if_pos rfl]at this⊢;exact Tr h1 h2 this
  .rw[if_neg e]at this⊢;exact this
def Gy{k:Nat}{q:AOper}{v:AV}{d:DRec}{wr:Option (Nat×AObj)}(he:Zk E k q fr h=some (v,d,wr)):d.wr=wr.map (·.1):=by
 cases k with
 |zero=>simp[Zk]at he
 |succ k=>
  cases hw:ZJ fr q.guard with
  |none=>simp[Zk,hw]at he
  |some b=>
   cases b with
   |false=>simp[Zk,hw]at he;obtain⟨_,rfl,rfl⟩:=he;rfl
   |true=>
    cases hc:q.op.isCall with
    |false=>obtain⟨_,rfl⟩:=Gv hc hw he;unfold QG;split<;>rfl
    |true=>
     obtain⟨dst,op,g⟩:=q;cases op<;>try (simp[AOp.isCall]at hc;done)
     case apa sz1 bytes x1 x2=>simp[Zk,hw,Z8]at he
     case call p f args=>
      simp only[Zk,hw]at he;cases p with
      |false=>
       rw[cond_false]at he;cases hrs:E.rs f with
       |none=>rw[hrs]at he;cases he
       |some sf=>
        rw[hrs]at he;simp only[ZEn,ZXi,Prod.mk.injEq]at he;obtain⟨_,_,_,rfl,rfl⟩:=he;rfl
      |true=>
       rw[cond_true]at he;split at he
       .cases he;exact ZSq _ _
       .cases he
     case callv p x args=>
      simp only[Zk,hw]at he;cases p with
      |false=>cases he
      |true=>
       rw[cond_true]at he;split at he
       .split at he
        .cases he;rfl
        .cases he
       .cases he
def Tt{N:Nat}{ops:Array Oper}:∀{os:List Oper}{qs:List AOper},X7 P N ops os qs=true->os.length=qs.length/\∀(i:Nat)(o:Oper)(q:AOper),os[i]?=some o->qs[i]?=some q->X6 P N ops o q=true:=by
 intro os;induction os with
 |nil=>
  intro qs hc;cases qs with
  |nil=>exact⟨rfl,λi o q ho=>by simp at ho⟩
  |cons _ _=>simp[X7]at hc
 |cons o os ih=>
  intro qs hc;cases qs with
  |nil=>simp[X7]at hc
  |cons q qs=>
   simp only[X7,ZWT]at hc;obtain⟨h1,h2⟩:=ih hc.2;refine⟨by simp[h1],λi o' q' ho hq=>?_⟩
   cases i with
   |zero=>
    simp only[ZXy,Option.some.injEq]at ho hq;subst ho;subst hq;exact hc.1
   |succ i=>exact h2 i o' q' (by simpa using ho)<|by simpa using hq
def Lj:∀{os:List Oper}{k:Nat},KO k os=true->∀i o,os[i]?=some o->∀e∈o.after,Region.binds .any e=true->e.on<k+i:=by
 intro os;induction os with
 |nil=>intro k _ i o ho;simp at ho
 |cons o os ih=>
  intro k hb i o' ho e he hbd;simp only[KO,ZWT,ZXl]at hb;cases i with
  |zero=>
   simp only[ZXy,Option.some.injEq]at ho;subst ho;have:=hb.1 e<|by simpa using he
   simpa[hbd]using this
  |succ i=>
   have:=ih hb.2 i o' (by simpa using ho) e he hbd
   omega
def Tu{ms:List Nat}{p1:List AOper}:∀{qs:List AOper}{us:List (List Nat)}{k:Nat},JZ ms p1 k qs us=true->∀i q u,qs[i]?=some q->us[i]?=some u->Rn (ms.getD (k+i) 0) p1 (k+i) q u=true:=by
 intro qs;induction qs with
 |nil=>intro us k _ i q u hq;simp at hq
 |cons q qs ih=>
  intro us k hc i q' u hq hu;cases us with
  |nil=>simp[JZ]at hc
  |cons u' us=>
   simp only[JZ,ZWT]at hc;cases i with
   |zero=>
    simp only[ZXy,Option.some.injEq]at hq hu;subst hq;subst hu;exact hc.1
   |succ i=>
    have:=ih hc.2 i q' u (by simpa using hq)<|by simpa using hu
    rw[show k+(i+1)=k+1+i by omega]
    exact this
def lis(listed:Array Bool)(k:Nat):Bool:=listed.getD k false
def X8{listed:Array Bool}{i:Nat}(hi:i<listed.size)(k:Nat):lis (listed.setIfInBounds i true) k=if k=i then true else lis listed k:=by
 unfold lis;by_cases e:k=i
 .subst e;rw[if_pos rfl,ZXC,ZZn hi];rfl
 .rw[if_neg e,ZXC,ZZo<|λx=>e x.symm,<-ZXC]
def KU{ops:Array Oper}{listed:Array Bool}(hs:listed.size=ops.size){i:Nat}:i∈Region.ready .any ops listed↔lis listed i=false/\∃o,ops[i]?=some o/\∀e∈o.after,Region.binds .any e=true->lis listed e.on=true:=by
 rw[mem_ready];constructor
 .rintro⟨h1,o,ho,h2⟩;have hi:=(ZXN.1 ho).1;have hi':i<listed.size:=by omega
  refine⟨?_,o,ho,h2⟩;unfold lis;rw[ZXC,ZXH hi']at h1⊢;exact h1
 .rintro⟨h1,o,ho,h2⟩;have hi:=(ZXN.1 ho).1;have hi':i<listed.size:=by omega
  refine⟨?_,o,ho,h2⟩;unfold lis at h1;rw[ZXC,ZXH hi']at h1⊢;exact h1
def Tv{ops:Array Oper}{N base sz n:Nat}{ro:Option Nat}(hcr:X.cr=Chk P)(hN:N<=sz)(hback:KO 0 ops.toList=true):∀(k:Nat),(∀j,j<k->AllOk P E j)->∀(rest:List AOper)(idx fuel:Nat)(listed:Array Bool)(T:Ty)(a:Act)(w:World)(fr:Fr)(h:Hp)(fr':Fr)(h':Hp)(Q:Exit->Act->World->Prop),
 idx+rest.length=ops.size->(∀(i:Nat)(o:Oper)(q:AOper),ops[idx+i]?=some o->rest[i]?=some q->X6 P N ops o q=true)->(∀i,idx<=i->i<ops.size->∀j,j<i->((YS ops.toList []).getD i 0).testBit j=true)->
 listed.size=ops.size->(∀j,lis listed j=decide (j<idx))->ZS E k rest fr h=some (fr',h')->St E T X h w fr base sz a->rest.length<=fuel->
 (∀T' a' w',Step T w T' w'->St E T' X h' w' fr' base sz a'->Q .normal a' w')->wpAnyIn (Qa ro) n P .any ops Q fuel listed a w:=by
 intro k;induction k with
 |zero=>intro _ rest idx fuel listed T a w fr h fr' h' Q _ _ _ _ _ he;simp[ZS]at he
 |succ k ih=>
  intro hall rest idx fuel listed T a w fr h fr' h' Q hlen hchk hlater hsize hlis he s hfuel hq;have hback':∀i o,ops[i]?=some o->∀e∈o.after,Region.binds .any e=true->e.on<i:=λi o ho e he hb=>by
   have:=Lj hback i o (by simpa using ho) e he hb
   omega
  cases rest with
  |nil=>
   simp only[ZS,Option.some.injEq,Prod.mk.injEq]at he;obtain⟨rfl,rfl⟩:=he;refine wpAnyIn_done ?_ (hq T a w (.refl _ _) s) fuel;refine List.eq_nil_iff_forall_not_mem.2 λi hi=>?_
   obtain⟨h1,o,ho,_⟩:=(KU hsize).1 hi;have:=(ZXN.1 ho).1;simp only[ZXt,ZXE]at hlen;rw[hlis i]at h1;simp only[decide_eq_false_iff_not]at h1;omega
  |cons q r=>
   simp only[ZXr]at hlen hfuel;obtain⟨fuel,rfl⟩:∃f,fuel=f+1:=⟨fuel-1,by omega⟩
   have hclosed:Closed ops (lis listed):=by
    intro i o ho hi e he' hb;rw[hlis i]at hi;have:=hback' i o ho e he' hb;rw[hlis];simp only[decide_eq_true_eq]at hi⊢;omega
   have hidx:idx<ops.size:=by omega
   have hready:idx∈Region.ready .any ops listed:=(KU hsize).2 ⟨by rw[hlis];simp,ops[idx],ZXH hidx,λe he' hb=>by
    rw[hlis];have:=hback' idx _ (ZXH hidx) e he' hb;simpa using this⟩
   refine⟨λh0=>by rw[h0]at hready;simp at hready,λi hi=>?_⟩
   obtain⟨h1,o,ho,h2⟩:=(KU hsize).1 hi;have hilt:=(ZXN.1 ho).1;have hie:i=idx:=by
    rw[hlis i]at h1;simp only[decide_eq_false_iff_not]at h1;by_cases e:i=idx
    .exact e
    .have:=Gu hclosed i o ho h2 idx (hlater i (by omega) hilt idx<|by omega)
     rw[hlis]at this;simp at this
   subst hie;simp only[ZS]at he;split at he
   .next fr1 h1' he1=>
    unfold wpOpIn;simp only[ho];refine(hall k<|by omega).op q fr h fr1 h1' he1 T X w a N ops o base sz ro n hcr hN (hchk 0 o q (by simpa using ho) rfl) s _ Q ?_
    intro T1 a1 w1 st1 s1;refine ih (λj hj=>hall j<|by omega) r (i+1) fuel (listed.setIfInBounds i true) T1 a1 w1 fr1 h1' fr' h' Q (by omega) ?_ ?_ (by simpa using hsize) ?_ he s1 (by omega) ?_
    .intro j o' q' ho' hq';exact hchk (j+1) o' q' (by rw[<-ho'];congr 1;omega)<|by simpa using hq'
    .intro j hj hj2 j' hj';exact hlater j (by omega) hj2 j' hj'
    .intro j;rw[X8 (by omega),hlis]
     by_cases e:j=i
     .subst e;simp
     .rw[if_neg e];simp only[decide_eq_decide];omega
    .intro T2 a2 w2 st2 s2;exact hq T2 a2 w2 (st1.trans st2) s2
   .cases he
end Go.AM
namespace Go.AM
open Go
variable [Dr]
variable {P:Program} {E:Env} {T:Ty} {X:Xt} {w:World} {h:Hp} {fr:Fr} {a:Act}
structure Chks(P:Program)(N:Nat)(ops:Array Oper)(un:List<|List Nat)(p1 p2:List AOper):Prop where
 mix:P.follows .mixedOrders=true
 back:KO 0 ops.toList=true
 len:ops.size=p1.length+p2.length
 op1:∀(i:Nat)(o:Oper)(q:AOper),ops[i]?=some o->p1[i]?=some q->X6 P N ops o q=true
 op2:∀(i:Nat)(o:Oper)(q:AOper),ops[p1.length+i]?=some o->p2[i]?=some q->X6 P N ops o q=true
 un:∀(i:Nat)(q:AOper)(u:List Nat),p1[i]?=some q->un[i]?=some u->∀j,j<i->((YS ops.toList []).getD i 0).testBit j=true\/∃x,p1[j]?=some x/\(j∈u\/(X3 x.op=true/\X3 q.op=true))/\XZ x q=true
 later:∀i,p1.length<=i->i<ops.size->∀j,j<i->((YS ops.toList []).getD i 0).testBit j=true
def Tw{N:Nat}{ops:Array Oper}{un:List (List Nat)}{p1 p2:List AOper}(hc:Gj P N ops un p1 p2=true):Chks P N ops un p1 p2:=by
 simp only[Gj,ZWT,ZXl,ZYn]at hc;obtain⟨⟨⟨⟨h1,h2⟩,h3⟩,h4⟩,h5⟩:=hc;obtain⟨k1,k2⟩:=Tt h3;have hlen:ops.size=p1.length+p2.length:=by simpa using k1
 refine⟨h1,h2,hlen,λi o q ho hq=>?_,λi o q ho hq=>?_,λi q u hq hu j hj=>?_,λi hi hi2 j hj=>?_⟩
 .exact k2 i o q (by simpa using ho)<|by rw[ZXK (ZXg.1 hq).1];exact hq
 .exact k2 (p1.length+i) o q (by simpa using ho)<|by rw[ZY0 (by omega),Nat.add_sub_cancel_left];exact hq
 .have:=Tu h4 i q u hq hu;rw[ZXf]at this;simp only[Rn,ZXl,ZYn,ZYy]at this;rcases this j hj with hb|hx
  .exact .inl hb
  .right;cases hp:p1[j]? with
   |none=>rw[hp]at hx;cases hx
   |some x=>
    rw[hp]at hx;simp only[ZWT,ZYy]at hx;exact⟨x,rfl,hx.1.imp (λhu=>by simpa using hu) id,hx.2⟩
 .have:=h5 (i-p1.length) (by omega)
  simp only[MO,ZXl,ZYn]at this;rw[show p1.length+(i-p1.length)=i by omega]at this
  exact this j hj
def Lk{x y:AOper}(hi:XZ x y=true){t:Nat}(hx:x.dst=some t):t ∉ y.reads/\y.dst≠some t:=by
 simp only[XZ,hx,ZWT,ZXn]at hi;obtain⟨⟨h1,h2⟩,_⟩:=hi;exact⟨by simpa using h1,by simpa using h2⟩
def Tx{x y:AOper}(hi:XZ x y=true){t:Nat}(hy:y.dst=some t):t ∉ x.reads:=by
 simp only[XZ,hy,ZWT,ZXn]at hi;simpa using hi.2
def Qs(h0:Hp)(L b:Nat):Option AObj:=(h0[b]?).or (if b<L then some .dead else none)
def Ry{r:Rc}{t:Nat}(hs:(fD t r).isSome=true):r.dst=some t:=by
 unfold fD at hs;split at hs
 .next e=>exact e
 .cases hs
structure At(rc:List Rc)(fr0:Fr)(h0:Hp)(L:Nat)(S:Nat->Bool)(fr:Fr)(h:Hp):Prop where
 fr:∀t,get fr t=LW S (fD t) 0 rc (get fr0 t)
 hp:∀b,h[b]?=LF S b 0 rc (Qs h0 L b)
 len:h.length=L
def Ll(h0:Hp)(L b:Nat):Qs h0 L b=h0[b]?\/(Gw (Qs h0 L b)/\Gw (h0[b]?)):=by
 unfold Qs;cases h0[b]? with
 |some o=>exact .inl rfl
 |none=>
  right;refine⟨λk v=>?_,λk v=>rfl⟩
  split<;>rfl
def Tz(h0:Hp)(L b:Nat):Rx (h0[b]?) (Qs h0 L b):=by
 unfold Qs;cases h0[b]? with
 |some o=>exact .inl rfl
 |none=>exact .inr<|.inl rfl
def Lm{op:AOp}{aid:Nat}{v:AV}{rs:List Nat}{wr:Option (Nat×AObj)}(hq:X3 op=true)(he:Z8 E fr h aid op=some (v,rs,wr)):wr=none:=by
 have hp:∀{o:Option AV},Zl o=some (v,rs,wr)->wr=none:=by
  intro o ho;obtain⟨u,hu,h2⟩:=ZY ho;cases h2;rfl
 have hm:∀{o:Option AV}{g:AV->AV}{r:List Nat},o.map (λv=>(g v,r,(none:Option<|Nat×AObj)))=some (v,rs,wr)->wr=none:=by
  intro o g r ho;cases o with
  |none=>cases ho
  |some x=>cases ho;rfl
 cases op<;>first|(simp[X3]at hq;done)|(simp only[Z8]at he;exact hp he)|skip
 case bsl fz ex sz z len ps=>
  simp only[X3]at hq;subst hq;simp only[Z8,cond_true]at he;split at he
  .cases hf:fits sz z<;>rw[hf]at he
   .cases he
   .rw[cond_true]at he;cases hcl:Z4 _<;>rw[hcl]at he
    .cases he
    .exact hp he
  .cases he
 all_goals simp only[Z8,QW,X1,Bool.cond_eq_ite]at he
 all_goals repeat' (first|exact hp he|exact hm (g:=λv=>v) he|exact hm (g:=λv=>.tup [v,.bool true]) he|(cases he;rfl)|(cases he;done)|(split at he))
section
variable {kk:Nat} {fr0:Fr} {h0:Hp} {p1 p2:List AOper} {un:List (List Nat)} {rc:List Rc} {fr1:Fr} {h1:Hp} {ops:Array Oper} {N:Nat} {S:Nat→Bool}
def Ln{k:Nat}{q:AOper}{v:AV}{d:DRec}{wr:Option (Nat×AObj)}(hq:X3 q.op=true)(he:Zk E k q fr h=some (v,d,wr)):d.wr=none:=by
 rw[Gy he];cases k with
 |zero=>simp[Zk]at he
 |succ k=>
  obtain⟨dst,op,g⟩:=q;cases hw:ZJ fr g with
  |none=>simp[Zk,hw]at he
  |some b=>
   cases b with
   |false=>simp[Zk,hw]at he;rw[<-he.2.2];rfl
   |true=>
    cases hc:op.isCall with
    |true=>
     cases op<;>try (simp[AOp.isCall]at hc;done)
     case apa sz1 bytes x1 x2=>simp[Zk,hw,Z8]at he
     case call p f args=>
      simp only[Zk,hw]at he;cases p with
      |false=>
       rw[cond_false]at he;cases hrs:E.rs f with
       |none=>rw[hrs]at he;cases he
       |some sf=>
        rw[hrs]at he;simp only[ZEn,ZXi,Prod.mk.injEq]at he;obtain⟨_,_,_,rfl,rfl⟩:=he;cases hq
      |true=>
       rw[cond_true]at he;split at he
       .cases he;rfl
       .cases he
     case callv p x args=>
      simp only[Zk,hw]at he;cases p with
      |false=>cases he
      |true=>
       rw[cond_true]at he;split at he
       .split at he
        .cases he;rfl
        .cases he
       .cases he
    |false=>
     obtain⟨h1,_⟩:=Gv (q:=⟨dst,op,g⟩) hc hw he;dsimp only at h1;generalize(Z8 E (Z2 op.slots fr) h h.length op).get!.2.1=rs at h1;rw[Lm hq h1];rfl
def TA{x y:DRec}(hx:x.wr=none)(hy:y.wr=none):Qy x y=true:=by simp[Qy,hx,hy]
def KV(run:Run (λo fr h=>Zk E kk o fr h) fr0 h0 p1 un rc fr1 h1){i:Nat}{r:Rc}(hr:rc[i]?=some r):∃q u,p1[i]?=some q/\un[i]?=some u/\r.dst=q.dst/\(∃fr h,Zk E kk q fr h=some (r.v,r.d,r.wr))/\(∀j∈u,∃y,rc[j]?=some y/\j<i/\Qy r.d y.d=true):=by
 have hlt:=(ZXg.1 hr).1;have hlt':i<p1.length:=by rw[<-run.len];exact hlt
 obtain⟨fr,h,r',u,k1,k2,k3,k4,_,_,_,_,_,_,_,k5⟩:=run.op i p1[i]<|ZX5 hlt';rw[hr]at k1;cases k1;exact⟨_,u,ZX5 hlt',k2,k4,⟨fr,h,k3⟩,k5⟩
def Lo(run:Run (λo fr h=>Zk E kk o fr h) fr0 h0 p1 un rc fr1 h1){i j:Nat}{r:Rc}(hr:rc[i]?=some r){q x:AOper}(hq:p1[i]?=some q)(hx:p1[j]?=some x){u:List Nat}(hu:un[i]?=some u)(hj:j<i)(hp:j∈u\/(X3 x.op=true/\X3 q.op=true)):
 ∃y,rc[j]?=some y/\Qy r.d y.d=true:=by
 obtain⟨q',u',k1,k2,k3,⟨fa,ha,k4⟩,k5⟩:=KV run hr;rw[hq]at k1;cases k1;rw[hu]at k2;cases k2;rcases hp with hp|⟨hp1,hp2⟩
 .obtain⟨y,h1,_,h2⟩:=k5 j hp;exact⟨y,h1,h2⟩
 .have hjl:j<rc.length:=by have:=(ZXg.1 hr).1;omega
  obtain⟨x',u2,m1,m2,m3,⟨fb,hb,m4⟩,m5⟩:=KV run<|ZX5 hjl;rw[hx]at m1;cases m1;exact⟨rc[j],ZX5 hjl,TA (Ln hp2 k4)<|Ln hp1 m4⟩
def TB(run:Run (λo fr h=>Zk E kk o fr h) fr0 h0 p1 un rc fr1 h1)(ck:Chks P N ops un p1 p2)(hc:Closed ops S){i:Nat}{o:Oper}(ho:ops[i]?=some o)(he:∀e∈o.after,Region.binds .any e=true->S e.on=true){r:Rc}(hr:rc[i]?=some r){q:AOper}(hq:p1[i]?=some q){j:Nat}(hj:j<i):
 S j=true\/∃x y,p1[j]?=some x/\rc[j]?=some y/\XZ x q=true/\Qy r.d y.d=true:=by
 obtain⟨q',u,k1,k2,_,_,_⟩:=KV run hr;rw[hq]at k1;cases k1;rcases ck.un i q u hq k2 j hj with hb|⟨x,hx,hp,hi⟩
 .exact .inl<|Gu hc i o ho he j hb
 .obtain⟨y,h1,h2⟩:=Lo run hr hq hx k2 hj hp;exact .inr ⟨x,y,hx,h1,hi,h2⟩
def TD(run:Run (λo fr h=>Zk E kk o fr h) fr0 h0 p1 un rc fr1 h1)(ck:Chks P N ops un p1 p2)(hc:Closed ops S){i j:Nat}(hi:S i=false)(hS:S j=true){r r':Rc}(hr:rc[i]?=some r)(hr':rc[j]?=some r'){q:AOper}(hq:p1[j]?=some q)(hj:i<j):
 ∃x,p1[i]?=some x/\XZ x q=true/\Qy r'.d r.d=true:=by
 obtain⟨q',u,k1,k2,_,_,_⟩:=KV run hr';rw[hq]at k1;cases k1;rcases ck.un j q u hq k2 i hj with hb|⟨x,hx,hp,hi'⟩
 .exfalso;have hlt:j<ops.size:=by have:=(ZXg.1 hq).1;rw[ck.len];omega
  have:=Gu hc j ops[j] (ZXH hlt) (hc j _ (ZXH hlt) hS) i hb;rw[hi]at this;cases this
 .obtain⟨y,h1,h2⟩:=Lo run hr' hq hx k2 hj hp;rw[hr]at h1;cases h1;exact⟨x,hx,hi',h2⟩
end
end Go.AM
namespace Go.AM
open Go
variable [Dr]
variable {P:Program} {E:Env} {T:Ty} {X:Xt} {w:World} {h:Hp} {fr:Fr} {a:Act}
def U2{x y:DRec}{b:Nat}(hok:Qy x y=true)(hx:x.wr=some b):y.all=false/\b ∉ y.rs/\(y.wr=some b->Kp x y=true):=by
 simp only[Qy,hx,ZWT,ZXn,ZYy]at hok;refine⟨hok.1.1.1,by simpa using hok.1.1.2,λhy=>?_⟩
 rcases hok.1.2 with h1|h1
 .rw[hy]at h1;simp at h1
 .exact h1
def Gz{x y:DRec}(h:Kp x y=true):∃k v j u,x.ik=some (k,v)/\y.ik=some (j,u)/\YF k j=true:=by
 unfold Kp at h;split at h
 .next k v j u h1 h2=>exact⟨k,v,j,u,h1,h2,h⟩
 .cases h
def TE{x y:DRec}{b:Nat}(hok:Qy x y=true)(hy:y.wr=some b):x.all=false/\b ∉ x.rs:=by
 simp only[Qy,hy,ZWT,ZXn]at hok;exact⟨hok.2.1,by simpa using hok.2.2⟩
def TF{listed:Array Bool}{K m:Nat}(hs:listed.size=K+m)(hl:∀j,lis listed j=decide (j<K)):listed.toList.count false=m:=by
 have:listed.toList=List.replicate K true++List.replicate m false:=by
  apply ZYp;intro j;have hj:=hl j;unfold lis at hj;rw[ZXC]at hj;rw[ZY2,List.getElem?_append,ZZf,ZYL,ZYL];by_cases h1:j<listed.size
  .rw[ZXH h1]at hj⊢;simp only[ZYK]at hj;rw[hj];by_cases h2:j<K
   .simp[h2]
   .rw[if_neg h2,if_pos<|by omega];simp[h2]
  .rw[Array.getElem?_eq_none (by omega),if_neg (by omega),if_neg<|by omega]
 rw[this];simp[List.count_append,List.count_replicate]
def Lp{ops:Array Oper}{N base sz n:Nat}{ro:Option Nat}{un:List (List Nat)}{p1 p2:List AOper}(hcr:X.cr=Chk P)(hN:N<=sz)(ck:Chks P N ops un p1 p2){k2:Nat}(hall:∀j,j<k2->AllOk P E j)
 {ex:AOper->Fr->Hp->Option (AV×DRec×Option (Nat×AObj))} {rc:List Rc} {fr0:Fr} {h0:Hp} {fr1:Fr} {h1:Hp} (run:Run ex fr0 h0 p1 un rc fr1 h1) {fr':Fr} {h':Hp} (hrest:ZS E k2 p2 fr1 h1=some (fr',h'))
 {fuel:Nat} {listed:Array Bool} {Q:Exit->Act->World->Prop} (hsize:listed.size=ops.size) (hhi:∀j,p1.length<=j->lis listed j=false) (hcount:listed.toList.count false<=fuel)
 (hat:At rc fr0 h0 h1.length (lis listed) fr h) (s:St E T X h w fr base sz a) (hq:∀T' a' w',Step T w T' w'->St E T' X h' w' fr' base sz a'->Q .normal a' w') (hdone:∀j,j<p1.length->lis listed j=true):wpAnyIn (Qa ro) n P .any ops Q fuel listed a w:=by
 have hlis:∀j,lis listed j=decide (j<p1.length):=by
  intro j;by_cases hj:j<p1.length
  .rw[hdone j hj];simp[hj]
  .rw[hhi j<|by omega];simp[hj]
 have hS:∀{α:Type}(f:Rc->Option α)(d:α),LW (lis listed) f 0 rc d=LW Y0 f 0 rc d:=λf d=>Gs _ _ _ (λj r hr _=>by
  have:=(ZXg.1 hr).1;rw[run.len]at this;rw[ZXf,hdone j this];rfl)
 have hfr:∀t,get fr1 t=get fr t:=λt=>by rw[run.fr t,hat.fr t,hS]
 have hhp:h=h1:=by
  apply ZYp;intro b;have hSF:LF (lis listed) b 0 rc (Qs h0 h1.length b)=LF Y0 b 0 rc (Qs h0 h1.length b):=VN _ _ _ (λj r hr _=>by
   have:=(ZXg.1 hr).1;rw[run.len]at this;rw[ZXf,hdone j this];rfl)
  rw[hat.hp b,hSF];have hb1:=run.hp b;rcases Lh (S:=Y0) (b:=b) rc 0 (Qs h0 h1.length b) (h0[b]?) (Ll _ _ _)with e|⟨e1,e2⟩
  .rw[e,hb1]
  .rw[e1,hb1,e2];rw[e2]at hb1;unfold Qs;cases hb:h0[b]? with
   |some o=>rfl
   |none=>
    rw[hb]at hb1;have:¬b<h1.length:=λhlt=>by rw[ZX5 hlt]at hb1;cases hb1
    simp[this]
 subst hhp;have s':St E T X h w fr1 base sz a:=s.withFr<|λt=>by rw[hfr t];exact s.f t
 refine Tv hcr hN ck.back k2 hall p2 p1.length fuel listed T a w fr1 h fr' h' Q ck.len.symm ck.op2 ck.later hsize hlis hrest s' ?_ hq;rw[TF (by rw[hsize,ck.len]) hlis]at hcount
 exact hcount
def TG{ops:Array Oper}{N base sz n:Nat}{ro:Option Nat}{un:List (List Nat)}{p1 p2:List AOper}(hcr:X.cr=Chk P)(hN:N<=sz)(ck:Chks P N ops un p1 p2){k k2:Nat}(ih:AllOk P E k)(hall:∀j,j<k2->AllOk P E j)
 {rc:List Rc} {fr0:Fr} {h0:Hp} {fr1:Fr} {h1:Hp} (run:Run (λo fr h=>Zk E (k+1) o fr h) fr0 h0 p1 un rc fr1 h1) {fr':Fr} {h':Hp} (hrest:ZS E k2 p2 fr1 h1=some (fr',h')):
 ∀(fuel:Nat)(listed:Array Bool)(T:Ty)(w:World)(a:Act)(fr:Fr)(h:Hp)(Q:Exit->Act->World->Prop),listed.size=ops.size->(∀j,p1.length<=j->lis listed j=false)->Closed ops (lis listed)->listed.toList.count false<=fuel->
 At rc fr0 h0 h1.length (lis listed) fr h->St E T X h w fr base sz a->(∀T' a' w',Step T w T' w'->St E T' X h' w' fr' base sz a'->Q .normal a' w')->wpAnyIn (Qa ro) n P .any ops Q fuel listed a w:=by
 intro fuel;induction fuel with
 |zero=>
  intro listed T w a fr h Q hsize hhi hclosed hcount hat s hq;refine Lp hcr hN ck hall run hrest hsize hhi hcount hat s hq λj hj=>?_
  have hj':j<listed.size:=by rw[hsize,ck.len];omega
  by_cases e:lis listed j=true
  .exact e
  .exfalso;have hmem:false∈listed.toList:=by
    unfold lis at e;rw[ZXC,ZXH hj']at e;simp only[ZYK,ZYj]at e;rw[<-e];simp
   have:=List.count_pos_iff.2 hmem;omega
 |succ fuel ihf=>
  intro listed T w a fr h Q hsize hhi hclosed hcount hat s hq;by_cases hdone:∀j,j<p1.length->lis listed j=true
  .exact Lp hcr hN ck hall run hrest hsize hhi hcount hat s hq hdone
  .have hback':∀i o,ops[i]?=some o->∀e∈o.after,Region.binds .any e=true->e.on<i:=λi o ho e he hb=>by
    have:=Lj ck.back i o (by simpa using ho) e he hb
    omega
   have hlow:∀i,i∈Region.ready .any ops listed->i<p1.length:=by
    intro i hi;obtain⟨h1',o,ho,h2⟩:=(KU hsize).1 hi;have hilt:=(ZXN.1 ho).1;by_cases e:i<p1.length
    .exact e
    .exfalso;exact hdone λj hj=>Gu hclosed i o ho h2 j<|ck.later i (by omega) hilt j<|by omega
   refine⟨λh0=>?_,λi hi=>?_⟩
   ·
    exfalso;have hex:∃j,j<p1.length/\lis listed j=false:=by
     refine Classical.byContradiction λhno=>hdone λj hj=>?_
     cases hb:lis listed j with
     |true=>rfl
     |false=>exact(hno ⟨j,hj,hb⟩).elim
    have:∀m,(∀j,j<m->lis listed j=true)\/∃j,j<m/\lis listed j=false/\∀i,i<j->lis listed i=true:=by
     intro m;induction m with
     |zero=>exact .inl λj hj=>by omega
     |succ m ihm=>
      rcases ihm with ihm|⟨j,q1,q2,q3⟩
      .cases hb:lis listed m with
       |true=>exact .inl λj hj=>by by_cases e:j=m;subst e;exact hb;exact ihm j<|by omega
       |false=>exact .inr ⟨m,by omega,hb,ihm⟩
      .exact .inr ⟨j,by omega,q2,q3⟩
    obtain⟨j0,hj0,hb0⟩:=hex;rcases this p1.length with hx|⟨j,q1,q2,q3⟩
    .rw[hx j0 hj0]at hb0;cases hb0
    .have hjn:j<ops.size:=by rw[ck.len];omega
     have:j∈Region.ready .any ops listed:=(KU hsize).2 ⟨q2,ops[j],ZXH hjn,λe he hb=>q3 _<|hback' j _ (ZXH hjn) e he hb⟩
     rw[h0]at this;simp at this
   .obtain⟨hni,o,ho,h2⟩:=(KU hsize).1 hi;have hilt:=hlow i hi;have hq1:p1[i]?=some p1[i]:=ZX5 hilt;generalize p1[i]=q at hq1;obtain⟨fri,hi',r,u,k1,k2',k3,k4,k5,k6,k7,k8,k9,k10,k12,k11⟩:=run.op i q hq1;have hrd:r.d.wr=r.wr.map (·.1):=Gy k3;have before:∀j,j<i->lis listed j=true\/∃x y,p1[j]?=some x/\rc[j]?=some y/\XZ x q=true/\Qy r.d y.d=true:=λj hj=>TB run ck hclosed ho h2 k1 hq1 hj
    have behind:∀(j:Nat)(r':Rc),rc[j]?=some r'->i<j->lis listed j=true->(∃qj:AOper,r'.dst=qj.dst/\XZ q qj=true)/\Qy r'.d r.d=true/\r'.d.wr=r'.wr.map (·.1):=by
     intro j r' hr' hj hl;obtain⟨qj,uj,m1,m2,m3,⟨_,_,m4⟩,m5⟩:=KV run hr';obtain⟨x,n2,n3,n4⟩:=TD run ck hclosed hni hl k1 hr' m1 hj;rw[hq1]at n2;cases n2;exact⟨⟨qj,m3,n3⟩,n4,Gy m4⟩
    have hdst:∀(j:Nat)(r':Rc),rc[j]?=some r'->∃x:AOper,p1[j]?=some x/\r'.dst=x.dst/\r'.d.wr=r'.wr.map (·.1):=by
     intro j r' hr';obtain⟨qj,uj,m1,m2,m3,⟨_,_,m4⟩,m5⟩:=KV run hr';exact⟨qj,m1,m3,Gy m4⟩
    have hread:∀t∈q.reads,get fr t=get fri t:=by
     intro t ht;rw[hat.fr t,k8 t];refine Gs _ _ _ λj r' hr' hs=>?_
     rw[ZXf];have hd:=Ry hs;obtain⟨x,hx1,hx2,_⟩:=hdst j r' hr';rcases ZZg j i with hj|hj|hj
     .have:below i j=true:=by simp[below,hj]
      rw[this];rcases before j hj with e|⟨x',y',e1,_,e2,_⟩
      .exact e
      .rw[hx1]at e1;cases e1;exact((Lk e2<|hx2▸hd).1 ht).elim
     .subst hj;simp[below,hni]
     .have:below i j=false:=by simp[below];omega
      rw[this];cases hb:lis listed j with
      |false=>rfl
      |true=>
       obtain⟨⟨qj,m1,m2⟩,_,_⟩:=behind j r' hr' hj hb;exact(Tx m2 (m1▸hd) ht).elim
    have hLW:∀b,(r.d.all=true\/b∈r.d.rs)->LF (lis listed) b 0 rc (Qs h0 h1.length b)=LF (below i) b 0 rc (Qs h0 h1.length b):=by
     intro b hb;refine VN _ _ _ λj r' hr' hs=>?_
     rw[ZXf];obtain⟨ob,hw⟩:=hs;obtain⟨x,hx1,hx2,hx3⟩:=hdst j r' hr';have hwr:r'.d.wr=some b:=by rw[hx3,hw];rfl
     rcases ZZg j i with hj|hj|hj
     .have:below i j=true:=by simp[below,hj]
      rw[this];rcases before j hj with e|⟨_,y,_,hy,_,hok⟩
      .exact e
      .rw[hr']at hy;cases hy;obtain⟨z1,z2⟩:=TE hok hwr;rcases hb with hb|hb
       .rw[z1]at hb;cases hb
       .exact(z2 hb).elim
     .subst hj;simp[below,hni]
     .have:below i j=false:=by simp[below];omega
      rw[this];cases hlj:lis listed j with
      |false=>rfl
      |true=>
       obtain⟨_,hok,_⟩:=behind j r' hr' hj hlj;obtain⟨z1,z2,_⟩:=U2 hok hwr;rcases hb with hb|hb
       .rw[z1]at hb;cases hb
       .exact(z2 hb).elim
    have htouch:∀b ob,hi'[b]?=some ob->(r.d.all=true\/b∈r.d.rs)->h[b]?=some ob:=by
     intro b ob hob hb;rw[hat.hp b,hLW b hb];rw[k9 b]at hob;rcases Lh (S:=below i) (b:=b) rc 0 (Qs h0 h1.length b) (h0[b]?) (Ll _ _ _)with e|⟨e1,e2⟩
     .rw[e,hob]
     .rw[e1];rw[e2]at hob;simp[Qs,hob]
    have hlen:hi'.length<=h.length:=by rw[hat.len];omega
    have hal:∀ob,r.wr=some (hi'.length,ob)->h[hi'.length]?=none\/h[hi'.length]?=some .dead:=by
     intro ob hw;have hwd:r.d.wr=some hi'.length:=by rw[hrd,hw];rfl
     rw[hat.hp];have:LF (lis listed) hi'.length 0 rc (Qs h0 h1.length hi'.length)=Qs h0 h1.length hi'.length:=by
      refine U0 _ _ _ λj r' hr' hs=>?_
      rw[ZXf];obtain⟨ob',hw'⟩:=hs;obtain⟨x,hx1,hx2,hx3⟩:=hdst j r' hr';have hwr:r'.d.wr=some hi'.length:=by rw[hx3,hw'];rfl
      rcases ZZg j i with hj|hj|hj
      .exfalso;have q1:(LF (below i) hi'.length 0 rc<|h0[hi'.length]?).isSome=true:=by
        cases hik':r'.d.ik with
        |none=>exact Li rc 0 _<|.inr ⟨j,r',hr',by simp[below,hj],⟨ob',hw'⟩,hik'⟩
        |some kv=>
         obtain⟨kx',vx'⟩:=kv;have hjl:j<p1.length:=by have:=(ZXg.1 hr').1;rw[run.len]at this;exact this
         obtain⟨frj,hj',rj,uj,m1,_,_,_,_,_,_,_,m9,_,m12,_⟩:=run.op j p1[j]<|ZX5 hjl;rw[hr']at m1;cases m1;obtain⟨bj,ksj,vsj,z1,z2⟩:=m12 kx' vx' hik';rw[hw']at z1;cases z1;rw[m9]at z2;obtain⟨hs,hlen⟩:=Rv hr';have e1:LF (below j) hi'.length 0 rc (h0[hi'.length]?)=LF Y0 hi'.length 0 (rc.take j) (h0[hi'.length]?):=by
          have:=L9 (b:=hi'.length) (rc.take j) (r'::rc.drop (j+1))<|h0[hi'.length]?;rw[<-hs,hlen]at this;exact this
         have e2:LF (below i) hi'.length 0 rc (h0[hi'.length]?)=LF (below i) hi'.length (0+j) (r'::rc.drop (j+1)) (LF Y0 hi'.length 0 (rc.take j)<|h0[hi'.length]?):=by
          have:=VO (S:=below i) (b:=hi'.length) (rc.take j) (r'::rc.drop (j+1)) 0<|h0[hi'.length]?;rw[<-hs,hlen]at this;rw[this];congr 1;refine VN _ _ _ λm rm hm _=>?_
          have hlt:=(ZXg.1 hm).1;rw[hlen]at hlt;simp[below,Y0];omega
         rw[e2];refine Li _ _ _<|.inl ?_;rw[<-e1,z2];rfl
       rw[<-k9]at q1;simp at q1
      .subst hj;exact hni
      .cases hlj:lis listed j with
       |false=>rfl
       |true=>
        obtain⟨_,hok,_⟩:=behind j r' hr' hj hlj;obtain⟨_,_,_,_,_,hik2,_⟩:=Gz<|(U2 hok hwr).2.2 hwd;exfalso;obtain⟨b2,ks2,vs2,z1,z2⟩:=k12 _ _ hik2;rw[hw]at z1;cases z1;simp at z2
     rw[this];unfold Qs;rw[ZXQ (by omega),Option.none_or]
     split
     .exact .inr rfl
     .exact .inl rfl
    unfold wpOpIn;simp only[ho];have hin:i<listed.size:=by rw[hsize,ck.len];omega
    have hhi2:∀j,p1.length<=j->lis (listed.setIfInBounds i true) j=false:=by
     intro j hj;rw[X8 hin,if_neg<|by omega]
     exact hhi j hj
    have hclosed2:Closed ops (lis<|listed.setIfInBounds i true):=by
     intro j oj hoj hl e he hb;rw[X8 hin]at hl⊢;by_cases ee:e.on=i
     .rw[if_pos ee]
     .rw[if_neg ee];by_cases ej:j=i
      .subst ej;rw[ho]at hoj;cases hoj;exact h2 e he hb
      .rw[if_neg ej]at hl;exact hclosed j oj hoj hl e he hb
    have hcount2:(listed.setIfInBounds i true).toList.count false<=fuel:=by
     have hf:listed[i]=false:=by
      have:=hni;unfold lis at this;rw[ZXC,ZXH hin]at this;exact this
     have hin':i<listed.toList.length:=by simpa using hin
     rw[Array.toList_setIfInBounds,List.count_set hin'];have hpos:0<listed.toList.count false:=List.count_pos_iff.2<|by rw[<-hf];simp
     simp only[Array.getElem_toList,hf];rw[if_pos (by decide),if_neg<|by decide]
     omega
    have hfr2:∀t,get (ZB fr q.dst r.v) t=LW (lis<|listed.setIfInBounds i true) (fD t) 0 rc (get fr0 t):=by
     intro t;rw[L8];by_cases ed:q.dst=some t
     .rw[if_pos ed];have hfr:fD t r=some r.v:=by unfold fD;rw[if_pos<|k4.trans ed]
      refine(BO k1 hfr (by rw[ZXf,X8 hin,if_pos rfl]) λj r' hj hr' hs=>?_).symm
      rw[ZXf,X8 hin,if_neg<|by omega]
      cases hlj:lis listed j with
      |false=>rfl
      |true=>
       obtain⟨⟨qj,m1,m2⟩,_,_⟩:=behind j r' hr' hj hlj;exact((Lk m2 ed).2 (m1▸Ry hs)).elim
     .rw[if_neg ed,hat.fr t];refine Gs _ _ _ λj r' hr' hs=>?_
      rw[ZXf,X8 hin];by_cases e:j=i
      .subst e;rw[k1]at hr';cases hr';exact(ed<|k4▸Ry hs).elim
      .rw[if_neg e]
    have hother:∀b,¬YT b r->h[b]?=LF (lis<|listed.setIfInBounds i true) b 0 rc (Qs h0 h1.length b):=by
     intro b hna;rw[hat.hp b];refine VN _ _ _ λj r' hr' hs=>?_
     rw[ZXf,X8 hin];by_cases e:j=i
     .subst e;rw[k1]at hr';cases hr';exact(hna hs).elim
     .rw[if_neg e]
    have hblt:∀(b':Nat)(ob:AObj),r.wr=some (b',ob)->b'<h.length:=by
     intro b' ob hw;rw[hw]at k5 k7;simp only[Ya,Nat.ble_eq]at k5;have:=Ks hi' b' ob k5 b';rw[if_pos rfl]at this;have hlt:=(ZXg.1 this).1;have k7':(setH hi' b' ob).length<=h1.length:=k7;rw[hat.len];omega
    cases hik:r.d.ik with
    |none=>
     refine Tl ih k3 hik hread htouch hlen hal hcr hN (ck.op1 i o q ho hq1) s _ Q ?_;intro T1 a1 w1 st1 s1;refine ihf (listed.setIfInBounds i true) T1 w1 a1 _ _ Q (by simpa using hsize) hhi2 hclosed2 hcount2 ⟨hfr2,λb=>?_,?_⟩ s1<|λT2 a2 w2 st2 s2=>hq T2 a2 w2 (st1.trans st2) s2
     .cases hw:r.wr with
      |none=>exact hother b λ⟨ob,h3⟩=>by rw[hw]at h3;cases h3
      |some p=>
       obtain⟨b',ob⟩:=p;have hlt':=hblt b' ob hw;show(setH h b' ob)[b]?=_
       rw[Ks h b' ob<|by omega]
       by_cases eb:b=b'
       .subst eb;rw[if_pos rfl];have hwd:r.d.wr=some b:=by rw[hrd,hw];rfl
        refine(BP k1 hw hik (by rw[ZXf,X8 hin,if_pos rfl]) λj r' hj hr' hs=>?_).symm
        rw[ZXf,X8 hin,if_neg<|by omega]
        cases hlj:lis listed j with
        |false=>rfl
        |true=>
         obtain⟨_,hok,hx3⟩:=behind j r' hr' hj hlj;obtain⟨ob',hw'⟩:=hs;have hwr:r'.d.wr=some b:=by rw[hx3,hw'];rfl
         obtain⟨_,_,_,_,_,hik2,_⟩:=Gz<|(U2 hok hwr).2.2 hwd;rw[hik]at hik2;cases hik2
       .rw[if_neg eb];exact hother b λ⟨ob2,h3⟩=>by rw[hw]at h3;cases h3;exact eb rfl
     .cases hw:r.wr with
      |none=>exact hat.len
      |some p=>
       obtain⟨b',ob⟩:=p;have hlt':=hblt b' ob hw;show(setH h b' ob).length=h1.length
       unfold setH;rw[(show Nat.blt b' h.length=true by rw[ZXT];exact hlt'),cond_true,ZXc]
       exact hat.len
    |some kv=>
     obtain⟨kx,vx⟩:=kv;obtain⟨b,ks,vs,hw,hbi⟩:=k12 kx vx hik;have hlt':=hblt b _ hw;have hwd:r.d.wr=some b:=by rw[hrd,hw];rfl
     obtain⟨hs,hslen⟩:=Rv k1;have hA:∃kA vA,LF (lis listed) b 0 (rc.take i) (Qs h0 h1.length b)=some (.map kA vA)/\∀x∈kA,x∈ks:=by
      have e1:LF (below i) b 0 (rc.take i) (h0[b]?)=some (.map ks vs):=by
       have:=VO (S:=below i) (b:=b) (rc.take i) (r::rc.drop (i+1)) 0<|h0[b]?;rw[<-hs,hslen]at this;rw[<-hbi,k9 b,this];refine(U0 _ _ _ λm rm hm _=>?_).symm
       simp[below]
      have e2:=Tn (S0:=below i) (S:=lis listed) (b:=b) (rc.take i) 0 (h0[b]?) (Qs h0 h1.length b) (λj rj hj ha=>?_)<|Tz h0 h1.length b
      .rw[e1]at e2;rcases e2 with e2|e2|⟨ks0,vs0,ks2,vs2,q1,q2,q3⟩
       .exact⟨ks,vs,e2,λx hx=>hx⟩
       .cases e2
       .cases q1;exact⟨ks2,vs2,q2,q3⟩
      .have hjlt:=(ZXg.1 hj).1;rw[hslen]at hjlt;have hj':rc[j]?=some rj:=by rw[ZYu hjlt]at hj;exact hj
       rw[ZXf];refine⟨by simp[below,hjlt],?_⟩
       rcases before j hjlt with e|⟨_,y,_,hy,_,hok⟩
       .exact .inl e
       .rw[hj']at hy;cases hy;obtain⟨ob',hw'⟩:=ha;obtain⟨_,_,_,hx3⟩:=hdst j rj hj';have hwr:rj.d.wr=some b:=by rw[hx3,hw'];rfl
        obtain⟨_,_,j2,u2,_,hik2,_⟩:=Gz<|(U2 hok hwd).2.2 hwr;exact .inr ⟨_,hik2⟩
     obtain⟨kA,vA,hA1,hA2⟩:=hA;have hB:=To (S:=lis listed) (b:=b) (Pk:=λx=>YF x kx=true) (rc.drop<|i+1) (i+1) (λj rj hj hS ha=>by
      have hj':rc[i+1+j]?=some rj:=by rw[<-ZYd];exact hj
      obtain⟨_,hok,hx3⟩:=behind (i+1+j) rj hj' (by omega) hS
      obtain⟨ob',hw'⟩:=ha;have hwr:rj.d.wr=some b:=by rw[hx3,hw'];rfl
      obtain⟨k2,v2,j2,u2,hik1,hik2,hne⟩:=Gz<|(U2 hok hwr).2.2 hwd;rw[hik]at hik2;cases hik2;exact⟨k2,v2,hik1,hne⟩)
     obtain⟨K,V,hKV,hK,hB⟩:=hB;have hnow:h[b]?=some (.map (kA++K)<|vA++V):=by
      have:=VO (S:=lis listed) (b:=b) (rc.take i) (r::rc.drop (i+1)) 0<|Qs h0 h1.length b;rw[<-hs,hslen,hA1]at this;rw[hat.hp b,this];simp only[LF,ZXf,hni];exact hB _ _
     have hthen:LF (lis<|listed.setIfInBounds i true) b 0 rc (Qs h0 h1.length b)=some (.map (kA++kx::K)<|vA++vx::V):=by
      have:=VO (S:=lis<|listed.setIfInBounds i true) (b:=b) (rc.take i) (r::rc.drop (i+1)) 0<|Qs h0 h1.length b;rw[<-hs,hslen]at this;rw[this];have e1:LF (lis<|listed.setIfInBounds i true) b 0 (rc.take i) (Qs h0 h1.length b)=some (.map kA vA):=by
       rw[<-hA1];refine VN _ _ _ λj rj hj _=>?_
       have hjlt:=(ZXg.1 hj).1;rw[hslen]at hjlt;rw[ZXf,X8 hin,if_neg<|by omega]
      rw[e1];simp only[LF,ZXf,X8 hin,if_true,VM hw hik,KT];have e2:LF (lis<|listed.setIfInBounds i true) b (i+1) (rc.drop<|i+1) (some<|.map (kA++[kx])<|vA++[vx])=LF (lis listed) b (i+1) (rc.drop<|i+1) (some<|.map (kA++[kx])<|vA++[vx]):=by
       refine VN _ _ _ λj rj hj _=>?_
       rw[X8 hin,if_neg<|by omega]
      rw[e2,hB];simp
     have hlenA:kA.length=vA.length:=by
      obtain⟨rr,es,clock,l,_,_,_,_,q4,q5⟩:=JS s.c.m hnow;have l1:=Qr q4;have l2:=Qr q5;simp only[ZX7,ZWQ]at l1 l2;omega
     refine Tm ih k3 hik hread hw hnow ?_ hcr hN (ck.op1 i o q ho hq1) s _ Q ?_
     .rintro ag kk e he ⟨ks',vs',hb',hf'⟩;rw[hbi]at hb';cases hb';rw[Tp]at hf'⊢;intro x hx;rcases ZXF.1 hx with hx|hx
      .exact hf' x<|hA2 x hx
      .exact Tq he<|hK x hx
     .intro T1 a1 w1 st1 s1;have m2:=Ts s1.c.m hlt' hlenA hKV;have s2:St E T1 X (setH h b<|.map (kA++kx::K)<|vA++vx::V) w1 (ZB fr q.dst r.v) base sz a1:=⟨⟨m2,s1.c.gl,s1.c.hX⟩,s1.f,s1.sz,s1.marks,s1.base⟩;refine ihf (listed.setIfInBounds i true) T1 w1 a1 _ _ Q (by simpa using hsize) hhi2 hclosed2 hcount2 ⟨hfr2,λb'=>?_,?_⟩ s2 (λT2 a2 w2 st2 s2=>hq T2 a2 w2 (st1.trans st2) s2)
      .rw[Ks h b _<|by omega]
       by_cases eb:b'=b
       .subst eb;rw[if_pos rfl,hthen]
       .rw[if_neg eb];exact hother b' λ⟨ob2,h3⟩=>by rw[hw]at h3;cases h3;exact eb rfl
      .unfold setH;rw[(show Nat.blt b h.length=true by rw[ZXT];exact hlt'),cond_true,ZXc]
       exact hat.len
end Go.AM
namespace Go.AM
open Go
variable [Dr]
variable {P:Program} {E:Env} {T:Ty} {X:Xt} {w:World} {h:Hp} {fr:Fr} {a:Act}
def TH(m:M T X h w)(n:Nat):M T X (h++List.replicate n .dead) w where
 inj:=m.inj
 lt:=m.lt
 notX:=m.notX
 obj b:=by
  rcases ZY9 b h.length with hb|hb
  .rw[ZXK hb];exact m.obj b
  .rw[ZY0 hb,JR m<|.inl<|ZXQ hb,ZYL];split
   .trivial
   .trivial
def GA(n k:Nat):lis (Array.replicate n false) k=false:=by
 unfold lis;rw[ZXC,Array.getElem?_replicate];split<;>rfl
def TI(m:M T X h w)(k:Nat)(hk:Dr.d->w.drawn<=k):M T X h {w with drawn:=k}:=Xr m ((Step.refl T w).drew k hk)<|λ_ _=>rfl
def TJ{k:Nat}(hall:∀j,j<=k->AllOk P E j):L7 P E k:=by
 intro un p1 p2 fr h fr' h' he T X w a N id ops base sz ro n hcr hN hc s Q hq;have ck:=Tw hc;simp only[Ze]at he;split at he
 .next fr1 h1 hrd=>
  simp only[ZXi,Prod.mk.injEq]at he;obtain⟨⟨fr2,h2⟩,he,_,rfl,rfl⟩:=he;obtain⟨rc,run⟩:=BX (λq fr h v d wr he=>Tk q fr h v d wr he) hrd
  cases k with
  |zero=>simp[ZS]at he
  |succ k=>
   refine wpIn_region_any ck.mix ?_;have st0:Step T w T {w with drawn:=w.drawn+1}:=(Step.refl T w).drew _ (λ_=>ZYA _)
   have m0:M T X (h++List.replicate (h1.length-h.length) .dead) {w with drawn:=w.drawn+1}:=TH (TI s.c.m _<|λ_=>ZYA _) _
   have s0:St E T X (h++List.replicate (h1.length-h.length) .dead) {w with drawn:=w.drawn+1} fr base sz a:=
    ⟨⟨m0,λg=>⟨HR st0 _ _ (s.c.gl g).1,ZQZ st0 (s.c.gl g).1 (s.c.gl g).2⟩,s.c.hX⟩,Kr st0 s.f,s.sz,s.marks.step st0,s.base⟩
   refine TG hcr hN ck (hall k<|by omega) (λj hj=>hall j<|by omega) run he ops.size (Array.replicate ops.size false) T _ a fr _ Q (by simp) (λj _=>GA _ j) ?_ ?_ ?_ s0
    (λT' a' w' st s'=>hq T' a' w' (st0.trans st) s')
   .intro i o _ hi;rw[GA]at hi;cases hi
   .rw[Array.toList_replicate,List.count_replicate_self];exact ZX0 _
   .refine⟨λt=>?_,λb=>?_,?_⟩
    .rw[Rt _ _ _<|λk r _ _=>GA _ _]
    .rw[U0 _ _ _<|λk r _ _=>GA _ _]
     unfold Qs;rcases ZY9 b h.length with hb|hb
     .rw[ZXK hb,ZX5 hb];rfl
     .rw[ZY0 hb,ZXQ hb,ZYL];by_cases hc:b<h1.length
      .rw[if_pos hc,if_pos<|by omega];rfl
      .rw[if_neg hc,if_neg<|by omega];rfl
    .rw[ZX7,ZZf];have:=run.grow;omega
 .cases he
def TK(ok:EnvOk P E):AllOk P E 0:=by
 constructor
 .exact ok.rs
 .intro f args h v h' he;simp[Qz]at he
 .intro f args h v h' he;simp[QX]at he
 .intro p f args h v h' he;simp[Qm]at he
 .intro b args h v h' he;simp[YG]at he
 .intro p f args h v h' he;simp[QQ]at he
 .intro q fr h fr' h' he;simp[Q5]at he
 .intro qs fr h fr' h' he;simp[ZS]at he
 .intro q fr h e fr' h' he;simp[Ze]at he
 .intro live q fr h e fr' h' he;simp[Ze]at he
def TL(ok:EnvOk P E):∀k,∀j,j<=k->AllOk P E j:=by
 intro k;induction k with
 |zero=>intro j hj;rw[Nat.le_zero.1 hj];exact TK ok
 |succ k ih=>
  intro j hj;rcases ZY9 j (k+1)with hlt|hge
  .exact ih j<|by omega
  .have:j=k+1:=by omega
   subst this;have ihk:=ih k<|ZX0 _;constructor
   .exact ok.rs
   .intro f args h v h' he T X w rargs hcr c hr;exact Bl ok ihk he rargs hcr c hr
   .intro f args h v h' he T X w rargs hcr c hr;exact Bo ok ihk he rargs hcr c hr
   .intro p f args h v h' he T X w rargs hcr c hr;exact Bq ok ihk he rargs hcr c hr
   .intro b args h v h' he T X w rargs l hcr c hr hT;exact BD ihk he rargs l hcr c hr hT
   .intro p f args h v h' he T X w fv rargs hcr c hf hr;exact Br ihk he fv rargs hcr c hf hr
   .intro q fr h fr' h' he T X w a N ops o base sz ro n hcr hN hc s next Q hn
    exact BA ihk he hcr hN hc s next Q hn
   .intro qs fr h fr' h' he T X w a N ops os base sz ro n hcr hN hc s Q hq;exact BB ihk he hcr hN hc s Q hq
   .intro q fr h e fr' h' he T X w a N c base sz rd ro n hcr hN hc hro s Q hq;exact BN ok.gl (TJ ih) ihk he hcr hN hc hro s Q hq
   .intro live q fr h e fr' h' he T X w a N c base sz rd ro n hcr hN hc hro s Q hq;exact L5 ihk he hcr hN hc hro s Q hq
def TM(ok:EnvOk P E)(k:Nat):AllOk P E k:=TL ok k k<|ZX0 _
end Go.AM
namespace Go.AM
open Go
variable {E:Env}
structure MonoAt(E:Env)(n:Nat):Prop where
 fn:∀f args h r,Qz E n f args h=some r->Qz E (n+1) f args h=some r
 body:∀f args h r,QX E n f args h=some r->QX E (n+1) f args h=some r
 call:∀p f args h r,Qm E n p f args h=some r->Qm E (n+1) p f args h=some r
 yield:∀b args h r,YG E n b args h=some r->YG E (n+1) b args h=some r
 callv:∀p f args h r,QQ E n p f args h=some r->QQ E (n+1) p f args h=some r
 op:∀o fr h r,Q5 E n o fr h=some r->Q5 E (n+1) o fr h=some r
 ops:∀os fr h r,ZS E n os fr h=some r->ZS E (n+1) os fr h=some r
 dop:∀o fr h r,Zk E n o fr h=some r->Zk E (n+1) o fr h=some r
 code:∀c fr h r,Ze E n c fr h=some r->Ze E (n+1) c fr h=some r
def Lq{ex ex':AOper->Fr->Hp->Option (AV×DRec×Option (Nat×AObj))}(he:∀o fr h r,ex o fr h=some r->ex' o fr h=some r):
 ∀(qs:List AOper)(us:List<|List Nat)(fr:Fr)(h:Hp)(recs:List DRec)(r:Fr×Hp),QH ex qs us fr h recs=some r->QH ex' qs us fr h recs=some r:=by
 intro qs;induction qs with
 |nil=>intro us fr h recs r hr;simpa only[QH]using hr
 |cons o qs ih=>
  intro us fr h recs r hr;cases us with
  |nil=>simp[QH]at hr
  |cons u us=>
   simp only[QH]at hr⊢;cases hx:ex o fr h with
   |none=>rw[hx]at hr;cases hr
   |some p=>
    obtain⟨v,d,wr⟩:=p;rw[hx]at hr;rw[he _ _ _ _ hx];dsimp only at hr⊢;cases hb:(Zv d recs u&&Ya h wr)with
    |false=>rw[hb]at hr;cases hr
    |true=>rw[hb]at hr;exact ih _ _ _ _ _ hr
def TN{n:Nat}(ih:MonoAt E n)(f:Nat)(args:List AV)(h:Hp)(r:AV×Hp)(hr:Qz E (n+1) f args h=some r):Qz E (n+2) f args h=some r:=by
 simp only[Qz]at hr⊢;cases hs:E.sum f with
 |some s=>rw[hs]at hr;exact hr
 |none=>rw[hs]at hr;exact ih.body _ _ _ _ hr
def TO{n:Nat}(ih:MonoAt E n)(f:Nat)(args:List AV)(h:Hp)(r:AV×Hp)(hr:QX E (n+1) f args h=some r):QX E (n+2) f args h=some r:=by
 simp only[QX]at hr⊢;cases hs:E.fn f with
 |none=>rw[hs]at hr;cases hr
 |some fn=>
  rw[hs]at hr;dsimp only at hr⊢;cases hc:Ze E n fn.body (QP 0 args) h with
  |none=>rw[hc]at hr;cases hr
  |some p=>rw[hc]at hr;rw[ih.code _ _ _ _ hc];exact hr
def TP{n:Nat}(ih:MonoAt E n)(p:Bool)(f:Nat)(args:List AV)(h:Hp)(r:AV×Hp)(hr:Qm E (n+1) p f args h=some r):Qm E (n+2) p f args h=some r:=by
 cases p with
 |false=>simp only[Qm]at hr⊢;exact ih.fn _ _ _ _ hr
 |true=>
  simp only[Qm]at hr⊢;cases ha:Ql h args with
  |none=>rw[ha]at hr;cases hr
  |some as=>
   rw[ha]at hr;dsimp only at hr⊢;cases hc:Qz E n f as []with
   |none=>rw[hc]at hr;cases hr
   |some p=>rw[hc]at hr;rw[ih.fn _ _ _ _ hc];exact hr
def TQ{n:Nat}(ih:MonoAt E n)(b:Nat)(args:List AV)(h:Hp)(r:AV×Hp)(hr:YG E (n+1) b args h=some r):YG E (n+2) b args h=some r:=by
 simp only[YG]at hr⊢;split at hr
 .next fr ps assign body hb=>
  split at hr
  .next fr0 hp=>
   split at hr
   .next fr1 h1 hc=>
    rw[ih.code _ _ _ _ hc];dsimp only at hr⊢;split at hr
    .next fr2 ps2 assign2 body2 hb2=>
     split at hr
     .next e fr3 h2 hc2=>rw[ih.code _ _ _ _ hc2];exact hr
     .cases hr
    .cases hr
   .cases hr
  .cases hr
 .cases hr
def TR{n:Nat}(ih:MonoAt E n)(p:Bool)(f:AV)(args:List AV)(h:Hp)(r:AV×Hp)(hr:QQ E (n+1) p f args h=some r):QQ E (n+2) p f args h=some r:=by
 cases f with
 |clo fn first cap=>
  cases fn<;>simp only[QQ,reduceCtorEq]at hr⊢
  exact ih.call _ _ _ _ _ hr
 |yld b=>
  cases p
  .simp only[QQ,cond_false]at hr⊢;exact ih.yield _ _ _ _ hr
  .simp[QQ]at hr
 |_=>simp[QQ]at hr
def TS{n:Nat}(ih:MonoAt E n)(o:AOper)(fr:Fr)(h:Hp)(r:Fr×Hp)(hr:Q5 E (n+1) o fr h=some r):Q5 E (n+2) o fr h=some r:=by
 obtain⟨d,op,g⟩:=o;cases hw:ZJ fr g with
 |none=>simp[Q5,hw]at hr
 |some b=>
  cases b with
  |false=>simpa[Q5,hw]using hr
  |true=>
   cases op<;>try (simpa only[Q5,hw]using hr)
   case call p f args=>
    simp only[Q5,hw,ZXi]at hr⊢;obtain⟨a,h1,h2⟩:=hr;exact⟨a,ih.call _ _ _ _ _ h1,h2⟩
   case callv p f args=>
    simp only[Q5,hw,ZXi]at hr⊢;obtain⟨a,h1,h2⟩:=hr;exact⟨a,ih.callv _ _ _ _ _ h1,h2⟩
def TT{n:Nat}(ih:MonoAt E n)(os:List AOper)(fr:Fr)(h:Hp)(r:Fr×Hp)(hr:ZS E (n+1) os fr h=some r):ZS E (n+2) os fr h=some r:=by
 cases os with
 |nil=>simpa only[ZS]using hr
 |cons o os=>
  simp only[ZS]at hr⊢;cases ho:Q5 E n o fr h with
  |none=>rw[ho]at hr;cases hr
  |some p=>rw[ho]at hr;rw[ih.op _ _ _ _ ho];exact ih.ops _ _ _ _ hr
def TU{n:Nat}(ih:MonoAt E n)(o:AOper)(fr:Fr)(h:Hp)(r:AV×DRec×Option (Nat×AObj))(hr:Zk E (n+1) o fr h=some r):Zk E (n+2) o fr h=some r:=by
 obtain⟨d,op,g⟩:=o;cases hw:ZJ fr g with
 |none=>simp[Zk,hw]at hr
 |some b=>
  cases b with
  |false=>simpa[Zk,hw]using hr
  |true=>
   cases op<;>try (simpa only[Zk,hw]using hr)
   case call p f args=>
    simp only[Zk,hw]at hr⊢;cases p with
    |false=>exact hr
    |true=>
     rw[cond_true]at hr⊢;split at hr
     .next v h2 hc=>rw[ih.call _ _ _ _ _ hc];exact hr
     .cases hr
   case callv p x args=>
    simp only[Zk,hw]at hr⊢;cases p with
    |false=>cases hr
    |true=>
     rw[cond_true]at hr⊢;split at hr
     .next g first cap hx=>
      split at hr
      .next v h2 hc=>rw[ih.call _ _ _ _ _ hc];exact hr
      .cases hr
     .cases hr
def Lr(n:Nat)(ops:List AOper)(fr:Fr)(h:Hp):Ze E (n+1) (.region ops) fr h=(ZS E n ops fr h).map λr=>(.normal,r.1,r.2):=rfl
def Ls(n:Nat)(un:List<|List Nat)(p1 p2:List AOper)(fr:Fr)(h:Hp):Ze E (n+1) (.draw un p1 p2) fr h =
 (match QH (λo fr h=>Zk E n o fr h) p1 un fr h []with
  |some (fr,h)=>(ZS E n p2 fr h).map λr=>(.normal,r.1,r.2)
  |none=>none):=rfl
def Lt(n:Nat)(a b:ACode)(fr:Fr)(h:Hp):Ze E (n+1) (.seq a b) fr h=(match Ze E n a fr h with|some (.normal,fr,h)=>Ze E n b fr h|r=>r):=rfl
def Lu(n:Nat)(x:Arg)(a b:ACode)(fr:Fr)(h:Hp):Ze E (n+1) (.cond x a b) fr h=(match ev E fr x with| .bool true=>Ze E n a fr h| .bool false=>Ze E n b fr h|_=>none):=rfl
def Lv(n:Nat)(id:Nat)(b:ACode)(fr:Fr)(h:Hp):Ze E (n+1) (.block id b) fr h=(match Ze E n b fr h with|some (.exit i,fr,h)=>bif i==id then some (.normal,fr,h)else some (.exit i,fr,h)|r=>r):=rfl
def Lw(n:Nat)(live:List Nat)(b:ACode)(fr:Fr)(h:Hp):Ze E (n+1) (.loop live b) fr h=(match Ze E n b (Z2 live fr) h with|some (.normal,fr,h)=>Ze E n (.loop live b) fr h|r=>r):=rfl
def Ly(n:Nat)(live:List Nat)(b:ACode)(fr:Fr)(h:Hp):Ze E (n+1) (.keep live b) fr h=(match Ze E n b fr h with|some (e,fr',h')=>some (e,Z2 live fr',Xq h.length (Z2 live fr') h')|none=>none):=rfl
def Lz(n:Nat)(f:Arg)(ps:List Nat)(assign body:ACode)(fr:Fr)(h:Hp):Ze E (n+1) (.rangeFunc f ps assign body) fr h =
 (match ev E fr f with
  | .clo (.func g) first cap=>
   match QX E n g (first++[.yld h.length]++cap) (h++[.loop .ready .normal fr ps assign body])with
   |some (_,h')=>
    match h'[h.length]? with
    |some (.loop .busy _ _ _ _ _)=>none
    |some (.loop _ pend fr' ps assign body)=>some (pend,fr,setH h' h.length<|.loop .exhausted pend fr' ps assign body)
    |_=>none
   |none=>none
  |_=>none):=rfl
def Zzk(n d sz:Nat)(z:AV)(ps:List<|Nat×Nat)(fr:Fr)(h:Hp):Ze E (n+1) (.zbox d sz z ps) fr h=(bif fits sz (Zvr h.length ps z)then some (.normal,put fr d<|.ptr (h.length+ps.length) 0 0 1,h++Zvo ps++[.row sz [Zvr h.length ps z]])else none):=rfl
def Zzl(n s d off:Nat)(p:Arg)(fr:Fr)(h:Hp):Ze E (n+1) (.nils s d off p) fr h=ZvU E s d off p fr h:=rfl
def ZR4(n d off s:Nat)(b:ACode)(fr:Fr)(h:Hp):Ze E (n+1) (.ghost d off s b) fr h=(match Ze E n b fr h with|some (.normal,fr',h')=>(ghW d off s fr' h').map λh2=>(.normal,fr',h2)|_=>none):=rfl
def Rz(n:Nat)(fr:Fr)(h:Hp):Ze E (n+1) .skip fr h=some (.normal,fr,h):=rfl
def RA(n:Nat)(i:Nat)(fr:Fr)(h:Hp):Ze E (n+1) (.exit i) fr h=some (.exit i,fr,h):=rfl
def RB(n:Nat)(fr:Fr)(h:Hp):Ze E (n+1) .ret fr h=some (.ret,fr,h):=rfl
def TV{n:Nat}(ih:MonoAt E n)(c:ACode)(fr:Fr)(h:Hp)(r:AExit×Fr×Hp)(hr:Ze E (n+1) c fr h=some r):Ze E (n+2) c fr h=some r:=by
 cases c with
 |skip=>exact hr
 |region ops=>
  rw[Lr,ZXi]at hr⊢;obtain⟨a,h1,h2⟩:=hr;exact⟨a,ih.ops _ _ _ _ h1,h2⟩
 |draw un p1 p2=>
  rw[Ls]at hr⊢;cases hd:QH (λo fr h=>Zk E n o fr h) p1 un fr h []with
  |none=>rw[hd]at hr;cases hr
  |some p=>
   rw[hd]at hr;rw[Lq (ex':=λo fr h=>Zk E (n+1) o fr h) (λo fr h r hx=>ih.dop _ _ _ _ hx) _ _ _ _ _ _ hd]
   simp only[ZXi]at hr⊢;obtain⟨a,h1,h2⟩:=hr;exact⟨a,ih.ops _ _ _ _ h1,h2⟩
 |seq a b=>
  rw[Lt]at hr⊢;cases ha:Ze E n a fr h with
  |none=>rw[ha]at hr;cases hr
  |some p=>
   obtain⟨e,fr1,h1⟩:=p;rw[ha]at hr;rw[ih.code _ _ _ _ ha];cases e with
   |normal=>exact ih.code _ _ _ _ hr
   |exit i=>exact hr
   |ret=>exact hr
 |cond x a b=>
  rw[Lu]at hr⊢;split at hr
  .exact ih.code _ _ _ _ hr
  .exact ih.code _ _ _ _ hr
  .cases hr
 |block id b=>
  rw[Lv]at hr⊢;cases ha:Ze E n b fr h with
  |none=>rw[ha]at hr;cases hr
  |some p=>rw[ha]at hr;rw[ih.code _ _ _ _ ha];exact hr
 |loop live b=>
  rw[Lw]at hr⊢;cases ha:Ze E n b (Z2 live fr) h with
  |none=>rw[ha]at hr;cases hr
  |some p=>
   obtain⟨e,fr1,h1⟩:=p;rw[ha]at hr;rw[ih.code _ _ _ _ ha];cases e with
   |normal=>exact ih.code _ _ _ _ hr
   |exit i=>exact hr
   |ret=>exact hr
 |rangeFunc f ps assign body=>
  rw[Lz]at hr⊢;split at hr
  .next g first cap hx=>
   split at hr
   .next v h' hb=>rw[ih.body _ _ _ _ hb];exact hr
   .cases hr
  .cases hr
 |exit i=>exact hr
 |ret=>exact hr
 |bad=>cases hr
 |zbox d sz z ps=>exact hr
 |nils s d off p=>exact hr
 |ghost d off s b=>
  rw[ZR4]at hr⊢;cases ha:Ze E n b fr h with
  |none=>rw[ha]at hr;cases hr
  |some p=>rw[ha]at hr;rw[ih.code _ _ _ _ ha];exact hr
 |keep live b=>
  rw[Ly]at hr⊢;cases ha:Ze E n b fr h with
  |none=>rw[ha]at hr;cases hr
  |some p=>rw[ha]at hr;rw[ih.code _ _ _ _ ha];exact hr
def W0(E:Env):∀n,MonoAt E n:=by
 intro n;induction n with
 |zero=>
  constructor
  .intro f args h r hr;simp[Qz]at hr
  .intro f args h r hr;simp[QX]at hr
  .intro p f args h r hr;simp[Qm]at hr
  .intro b args h r hr;simp[YG]at hr
  .intro p f args h r hr;simp[QQ]at hr
  .intro o fr h r hr;simp[Q5]at hr
  .intro os fr h r hr;simp[ZS]at hr
  .intro o fr h r hr;simp[Zk]at hr
  .intro c fr h r hr;simp[Ze]at hr
 |succ n ih=>exact⟨TN ih,TO ih,TP ih,TQ ih,TR ih,TS ih,TT ih,TU ih,TV ih⟩
end Go.AM
namespace Go.AM
open Go
variable {α β:Type} {E:Env}
def Qu(g:Nat->Option α):Prop:=∀n x,g n=some x->g (n+1)=some x
def Qu.le{g:Nat->Option α}(hm:Qu g){n m:Nat}(h:n<=m){x:α}(hx:g n=some x):g m=some x:=by
 induction h with
 |refl=>exact hx
 |step _ ih=>exact hm _ _ ih
open Classical in
noncomputable def lim(g:Nat->Option α):Option α:=if h:∃x n,g n=some x then some (Classical.choose h)else none
def Yr{g:Nat->Option α}(hm:Qu g){x:α}:lim g=some x↔∃n,g n=some x:=by
 unfold lim;constructor
 .intro h;split at h
  .next hx=>
   obtain⟨n,hn⟩:=Classical.choose_spec hx;cases h;exact⟨n,hn⟩
  .cases h
 .rintro⟨n,hn⟩;have hx:∃x n,g n=some x:=⟨x,n,hn⟩;rw[dif_pos hx];obtain⟨m,hmm⟩:=Classical.choose_spec hx;have h1:=hm.le (Nat.le_max_left n m) hn;have h2:=hm.le (Nat.le_max_right n m) hmm;rw[h1]at h2;cases h2;rfl
def U3{g:Nat->Option α}(h:∀n,g n=none):lim g=none:=by
 unfold lim;rw[dif_neg];rintro⟨x,n,hn⟩;rw[h]at hn;cases hn
def GB{a b:Option α}(h:∀x,a=some x↔b=some x):a=b:=by
 cases a with
 |none=>
  cases b with
  |none=>rfl
  |some y=>exact absurd ((h y).2 rfl)<|by simp
 |some x=>exact((h x).1 rfl).symm
def TW{f g:Nat->Option α}(hf:Qu f)(hg:Qu g)(h:∀x,(∃n,f n=some x)↔∃n,g n=some x):lim f=lim g:=
 GB λx=>by rw[Yr hf,Yr hg,h]
def QA(a:Option α):lim (λ_=>a)=a:=GB λx=>by
 rw[Yr (g:=λ_=>a)<|λ_ _ h=>h]
 exact⟨λ⟨_,h⟩=>h,λh=>⟨0,h⟩⟩
def Qh{g:Nat->Option α}(hm:Qu g)(h0:g 0=none):lim g=lim (λn=>g<|n+1):=by
 refine TW hm (λn x h=>hm _ _ h) λx=>⟨?_,?_⟩
 .rintro⟨n,hn⟩;cases n with
  |zero=>rw[h0]at hn;cases hn
  |succ n=>exact⟨n,hn⟩
 .rintro⟨n,hn⟩;exact⟨n+1,hn⟩
def thn(a:Option α)(k:α->Option β):Option β:=match a with|some x=>k x|none=>none
def ZM(x:α)(k:α->Option β):thn (some x) k=k x:=rfl
def LA(k:α->Option β):thn none k=none:=rfl
@[congr] def Z9w{a a':Option α}{k:α->Option β}(h:a=a'):thn a k=thn a' k:=by rw[h]
def TX{a:Nat->Option α}{k:Nat->α->Option β}(ha:Qu a)(hk:∀x,Qu<|λn=>k n x):Qu (λn=>thn (a n)<|k n):=by
 intro n y h;cases hx:a n with
 |none=>simp only[hx,thn]at h;cases h
 |some x=>
  simp only[hx,thn]at h;simp only[ha _ _ hx,thn];exact hk x _ _ h
def KW{a:Nat->Option α}{k:Nat->α->Option β}(ha:Qu a)(hk:∀x,Qu<|λn=>k n x):lim (λn=>thn (a n)<|k n)=thn (lim a) (λx=>lim<|λn=>k n x):=by
 refine GB λy=>?_
 rw[Yr<|TX ha hk];constructor
 .rintro⟨n,hn⟩;cases hx:a n with
  |none=>simp only[hx,thn]at hn;cases hn
  |some x=>
   simp only[hx,thn]at hn;rw[(Yr ha).2 ⟨n,hx⟩,ZM,Yr<|hk x];exact⟨n,hn⟩
 .intro h;cases hx:lim a with
  |none=>rw[hx]at h;cases h
  |some x=>
   rw[hx,ZM,Yr<|hk x]at h;obtain⟨n,hn⟩:=(Yr ha).1 hx;obtain⟨m,hm⟩:=h;refine⟨max n m,?_⟩;simp only[ha.le (Nat.le_max_left n m) hn,thn];exact(hk x).le (Nat.le_max_right n m) hm
def W3{a:Nat->Option α}{k:α->Option β}(ha:Qu a):lim (λn=>thn (a n) k)=thn (lim a) k:=by
 rw[KW ha (k:=λ_=>k)<|λx _ _ h=>h]
 congr 1
 funext x
 exact QA _
noncomputable def fnV(E:Env)(f:Nat)(args:List AV)(h:Hp):Option (AV×Hp):=lim λn=>Qz E n f args h
noncomputable def VP(E:Env)(f:Nat)(args:List AV)(h:Hp):Option (AV×Hp):=lim λn=>QX E n f args h
noncomputable def YU(E:Env)(p:Bool)(f:Nat)(args:List AV)(h:Hp):Option (AV×Hp):=lim λn=>Qm E n p f args h
noncomputable def U4(E:Env)(b:Nat)(args:List AV)(h:Hp):Option (AV×Hp):=lim λn=>YG E n b args h
noncomputable def Xy(E:Env)(p:Bool)(f:AV)(args:List AV)(h:Hp):Option (AV×Hp):=lim λn=>QQ E n p f args h
noncomputable def opV(E:Env)(o:AOper)(fr:Fr)(h:Hp):Option (Fr×Hp):=lim λn=>Q5 E n o fr h
noncomputable def Z9(E:Env)(os:List AOper)(fr:Fr)(h:Hp):Option (Fr×Hp):=lim λn=>ZS E n os fr h
noncomputable def Xz(E:Env)(o:AOper)(fr:Fr)(h:Hp):Option (AV×DRec×Option (Nat×AObj)):=lim λn=>Zk E n o fr h
noncomputable def Zm(E:Env)(os:List AOper)(us:List<|List Nat)(fr:Fr)(h:Hp)(recs:List DRec):Option (Fr×Hp):=lim λn=>QH (λo fr h=>Zk E n o fr h) os us fr h recs
noncomputable def Zb(E:Env)(c:ACode)(fr:Fr)(h:Hp):Option (AExit×Fr×Hp):=lim λn=>Ze E n c fr h
def GC(f:Nat)(args:List AV)(h:Hp):Qu λn=>Qz E n f args h:=λn x hx=>(W0 E n).fn _ _ _ _ hx
def LB(f:Nat)(args:List AV)(h:Hp):Qu λn=>QX E n f args h:=λn x hx=>(W0 E n).body _ _ _ _ hx
def U5(p:Bool)(f:Nat)(args:List AV)(h:Hp):Qu λn=>Qm E n p f args h:=λn x hx=>(W0 E n).call _ _ _ _ _ hx
def TY(b:Nat)(args:List AV)(h:Hp):Qu λn=>YG E n b args h:=λn x hx=>(W0 E n).yield _ _ _ _ hx
def RC(p:Bool)(f:AV)(args:List AV)(h:Hp):Qu λn=>QQ E n p f args h:=λn x hx=>(W0 E n).callv _ _ _ _ _ hx
def KX(o:AOper)(fr:Fr)(h:Hp):Qu λn=>Q5 E n o fr h:=λn x hx=>(W0 E n).op _ _ _ _ hx
def VQ(o:List AOper)(fr:Fr)(h:Hp):Qu λn=>ZS E n o fr h:=λn x hx=>(W0 E n).ops _ _ _ _ hx
def KY(o:AOper)(fr:Fr)(h:Hp):Qu λn=>Zk E n o fr h:=λn x hx=>(W0 E n).dop _ _ _ _ hx
def QI(c:ACode)(fr:Fr)(h:Hp):Qu λn=>Ze E n c fr h:=λn x hx=>(W0 E n).code _ _ _ _ hx
def LC(os:List AOper)(us:List<|List Nat)(fr:Fr)(h:Hp)(recs:List DRec):Qu λn=>QH (λo fr h=>Zk E n o fr h) os us fr h recs:=
 λn x hx=>Lq (λo fr h r hr=>(W0 E n).dop _ _ _ _ hr) _ _ _ _ _ _ hx
def U6(a:Option α):Qu λ_=>a:=λ_ _ h=>h
def VR(a:Option α)(f:α->β):a.map f=thn a (λx=>some<|f x):=by cases a<;>rfl
def TZ{f:Nat}{args:List AV}{h:Hp}(hs:E.sum f=none):fnV E f args h=VP E f args h:=by
 unfold fnV VP;rw[Qh (GC f args h) rfl];simp only[Qz,hs]
def V8{f:Nat}{args:List AV}{h:Hp}{s:List AV->Hp->Option (AV×Hp)}(hs:E.sum f=some s):fnV E f args h=s args h:=by
 unfold fnV;rw[Qh (GC f args h) rfl];simp only[Qz,hs];exact QA _
def fin(rs:List ResVar)(r:Option<|AExit×Fr×Hp):Option (AV×Hp):=
 match r with
 |some (.normal,fr,h)=>thn (QO fr h rs) λv=>some (v,h)
 |some (.ret,fr,h)=>thn (QO fr h rs) λv=>some (v,h)
 |_=>none
def S1(rs:List ResVar)(fr:Fr)(h:Hp):fin rs (some (.normal,fr,h))=thn (QO fr h rs) λv=>some (v,h):=rfl
def S2(rs:List ResVar)(fr:Fr)(h:Hp):fin rs (some (.ret,fr,h))=thn (QO fr h rs) λv=>some (v,h):=rfl
def LD{f:Nat}{args:List AV}{h:Hp}{fn:AFun}(hf:E.fn f=some fn):VP E f args h=fin fn.res (Zb E fn.body (QP 0 args) h):=by
 unfold VP Zb;rw[Qh (LB f args h) rfl];have e:(λn=>QX E (n+1) f args h)=λn=>thn (Ze E n fn.body (QP 0 args) h) λp=>fin fn.res (some p):=by
  funext n
  simp only[QX,hf,VR];cases Ze E n fn.body (QP 0 args) h with
  |none=>rfl
  |some p=>obtain⟨e,fr,h⟩:=p;cases e<;>rfl
 rw[e,W3<|QI _ _ _];cases lim (λn=>Ze E n fn.body (QP 0 args) h)<;>rfl
noncomputable def pfn(E:Env)(f:Nat)(args:List AV):Option AV:=thn (fnV E f args []) λr=>YE r.2 r.1
def GD{f:Nat}{args:List AV}{h:Hp}:YU E true f args h=thn (Ql h args) λas=>thn (pfn E f as) λv=>some (v,h):=by
 unfold YU pfn fnV;rw[Qh (U5 true f args h) rfl];simp only[Qm];cases Ql h args with
 |none=>exact QA _
 |some as=>
  simp only[ZM];have e:(λn=>(match Qz E n f as []with|some (v,h')=>Option.map (λv=>(v,h)) (YE h' v)|none=>none))=λn=>thn (Qz E n f as []) λr=>thn (YE r.2 r.1) λv=>some (v,h):=by
   funext n
   cases Qz E n f as []with
   |none=>rfl
   |some p=>simp only[ZM,VR]
  refine(congrArg lim e).trans ?_;rw[W3<|GC _ _ _];cases lim (λn=>Qz E n f as [])<;>rfl
def LE{f:Nat}{args:List AV}{h:Hp}:YU E false f args h=fnV E f args h:=by
 unfold YU fnV;rw[Qh (U5 false f args h) rfl];simp only[Qm]
def RD{p:Bool}{g:Nat}{first cap args:List AV}{h:Hp}:Xy E p (.clo (.func g) first cap) args h=YU E p g (first++args++cap) h:=by
 unfold Xy YU;rw[Qh (RC p _ args h) rfl];simp only[QQ]
def S3{b:Nat}{args:List AV}{h:Hp}:Xy E false (.yld b) args h=U4 E b args h:=by
 unfold Xy U4;rw[Qh (RC false _ args h) rfl];simp only[QQ,cond_false]
def grd(v:AV)(b:Bool)(x y:Option α):Option α:=match v with| .bool c=>bif c==b then x else y| .tup []=>y|_=>none
@[congr] def Z9C{v v':AV}{b:Bool}{x y:Option α}(h:v=v'):grd v b x y=grd v' b x y:=by rw[h]
def S4{d:Option Nat}{op:AOp}{t:Nat}{b:Bool}{fr:Fr}{h:Hp}:opV E ⟨d,op,some (t,b)⟩ fr h=grd (get fr t) b (opV E ⟨d,op,none⟩ fr h) (some (ZB fr d<|.tup [],h)):=by
 unfold opV;rw[Qh (KX _ fr h) rfl,Qh (KX ⟨d,op,none⟩ fr h) rfl];cases hg:get fr t with
 |bool c=>
  cases hb:(c==b)with
  |true=>
   have hw:ZJ fr (some (t,b))=some true:=by simp only[ZJ,hg,hb]
   simp only[grd,hb,cond_true];congr 1
   funext n
   cases op<;>simp only[Q5,hw]<;>rfl
  |false=>
   have hw:ZJ fr (some (t,b))=some false:=by simp only[ZJ,hg,hb]
   simp only[grd,hb,cond_false];rw[<-QA (some (ZB fr d<|.tup [],h))];congr 1
   funext n
   cases op<;>simp only[Q5,hw]
 |tup vs=>
  cases vs with
  |nil=>
   have hw:ZJ fr (some (t,b))=some false:=by simp only[ZJ,hg]
   simp only[grd];rw[<-QA (some (ZB fr d<|.tup [],h))];congr 1
   funext n
   cases op<;>simp only[Q5,hw]
  |cons _ _=>
   have hw:ZJ fr (some (t,b))=none:=by simp only[ZJ,hg]
   simp only[grd];refine U3 λn=>?_
   cases op<;>simp only[Q5,hw]
 |_=>
  have hw:ZJ fr (some (t,b))=none:=by simp only[ZJ,hg]
  simp only[grd];refine U3 λn=>?_
  cases op<;>simp only[Q5,hw]
def GE{d:Option Nat}{op:AOp}{fr:Fr}{h:Hp}(hc:op.isCall=false):opV E ⟨d,op,none⟩ fr h=thn (Z8 E fr h h.length op) λr=>some (ZB fr d r.1,ZH h r.2.2):=by
 unfold opV;rw[Qh (KX _ fr h) rfl];rw[<-QA (thn (Z8 E fr h h.length op) λr=>some (ZB fr d r.1,ZH h r.2.2))]
 congr 1
 funext n
 cases op<;>first|(simp[AOp.isCall]at hc;done)|(simp only[Q5,ZJ,VR])
def ZGD{d:Option Nat}{sz bytes:Nat}{s x:Arg}{fr:Fr}{h:Hp}:opV E ⟨d,.apa sz bytes s x,none⟩ fr h=thn (ZE9 h sz bytes (ev E fr s)<|ev E fr x) λr=>some (ZB fr d r.1,r.2):=by
 unfold opV;rw[Qh (KX _ fr h) rfl];rw[<-QA (thn (ZE9 h sz bytes (ev E fr s)<|ev E fr x) λr=>some (ZB fr d r.1,r.2))]
 congr 1
def RE{d:Option Nat}{p:Bool}{f:Nat}{args:List Arg}{fr:Fr}{h:Hp}:opV E ⟨d,.call p f args,none⟩ fr h=thn (YU E p f (args.map<|ev E fr) h) λr=>some (ZB fr d r.1,r.2):=by
 unfold opV YU;rw[Qh (KX _ fr h) rfl];simp only[Q5,ZJ,VR];rw[W3<|U5 _ _ _ _]
def RF{d:Option Nat}{p:Bool}{x:Arg}{args:List Arg}{fr:Fr}{h:Hp}:opV E ⟨d,.callv p x args,none⟩ fr h=thn (Xy E p (ev E fr x) (args.map<|ev E fr) h) λr=>some (ZB fr d r.1,r.2):=by
 unfold opV Xy;rw[Qh (KX _ fr h) rfl];simp only[Q5,ZJ,VR];rw[W3<|RC _ _ _ _]
def KZ{fr:Fr}{h:Hp}:Z9 E [] fr h=some (fr,h):=by
 unfold Z9;rw[Qh (VQ _ fr h) rfl];simp only[ZS];exact QA _
def V9{o:AOper}{r:List AOper}{fr:Fr}{h:Hp}:Z9 E (o::r) fr h=thn (opV E o fr h) λp=>Z9 E r p.1 p.2:=by
 unfold Z9 opV;rw[Qh (VQ _ fr h) rfl];have e:(λn=>ZS E (n+1) (o::r) fr h)=λn=>thn (Q5 E n o fr h) λp=>ZS E n r p.1 p.2:=by
  funext n
  simp only[ZS];cases Q5 E n o fr h<;>rfl
 rw[e,KW (KX _ _ _)<|λx=>VQ _ _ _]
def S5{d:Option Nat}{op:AOp}{t:Nat}{b:Bool}{fr:Fr}{h:Hp}:Xz E ⟨d,op,some (t,b)⟩ fr h=grd (get fr t) b (Xz E ⟨d,op,none⟩ fr h) (some (.tup [],⟨false,[],none,none⟩,none)):=by
 unfold Xz;rw[Qh (KY _ fr h) rfl,Qh (KY ⟨d,op,none⟩ fr h) rfl];cases hg:get fr t with
 |bool c=>
  cases hb:(c==b)with
  |true=>
   have hw:ZJ fr (some (t,b))=some true:=by simp only[ZJ,hg,hb]
   simp only[grd,hb,cond_true];congr 1
   funext n
   cases op<;>simp only[Zk,hw]<;>rfl
  |false=>
   have hw:ZJ fr (some (t,b))=some false:=by simp only[ZJ,hg,hb]
   simp only[grd,hb,cond_false];rw[<-QA (some (AV.tup [],(⟨false,[],none,none⟩:DRec),(none:Option<|Nat×AObj)))];congr 1
   funext n
   cases op<;>simp only[Zk,hw]
 |tup vs=>
  cases vs with
  |nil=>
   have hw:ZJ fr (some (t,b))=some false:=by simp only[ZJ,hg]
   simp only[grd];rw[<-QA (some (AV.tup [],(⟨false,[],none,none⟩:DRec),(none:Option<|Nat×AObj)))];congr 1
   funext n
   cases op<;>simp only[Zk,hw]
  |cons _ _=>
   have hw:ZJ fr (some (t,b))=none:=by simp only[ZJ,hg]
   simp only[grd];refine U3 λn=>?_
   cases op<;>simp only[Zk,hw]
 |_=>
  have hw:ZJ fr (some (t,b))=none:=by simp only[ZJ,hg]
  simp only[grd];refine U3 λn=>?_
  cases op<;>simp only[Zk,hw]
def LG{d:Option Nat}{op:AOp}{fr:Fr}{h:Hp}(hc:op.isCall=false):
 Xz E ⟨d,op,none⟩ fr h=thn (Z8 E (Z2 op.slots fr) h h.length op) λr=>some (r.1,QG E (Z2 op.slots fr) h op r.2.2,r.2.2):=by
 unfold Xz;rw[Qh (KY _ fr h) rfl];rw[<-QA (thn (Z8 E (Z2 op.slots fr) h h.length op) λr=>some (r.1,QG E (Z2 op.slots fr) h op r.2.2,r.2.2))]
 congr 1
 funext n
 cases op<;>first|(simp[AOp.isCall]at hc;done)|(simp only[Zk,ZJ,VR])
def S6{d:Option Nat}{f:Nat}{args:List Arg}{fr:Fr}{h:Hp}:
 Xz E ⟨d,.call true f args,none⟩ fr h=thn (YU E true f (args.map<|ev E fr) h) λr=>some (r.1,ZOd h<|args.map<|ev E fr,none):=by
 unfold Xz YU;rw[Qh (KY _ fr h) rfl];have e:(λn=>Zk E (n+1) ⟨d,.call true f args,none⟩ fr h)=λn=>thn (Qm E n true f (args.map<|ev E fr) h) λr=>some (r.1,ZOd h<|args.map<|ev E fr,(none:Option<|Nat×AObj)):=by
  funext n
  simp only[Zk,ZJ,cond_true];cases Qm E n true f (args.map<|ev E fr) h<;>rfl
 rw[e,W3<|U5 _ _ _ _]
def rsD(o:Option<|List AV->Nat->List AV->Option (List AV))(h:Hp)(args:List AV):Option (AV×DRec×Option (Nat×AObj)):=match o with
 |some s=>ZEn s h args
 |none=>none
def ZIH{d:Option Nat}{f:Nat}{args:List Arg}{fr:Fr}{h:Hp}:Xz E ⟨d,.call false f args,none⟩ fr h=rsD (E.rs f) h (args.map<|ev E fr):=by
 unfold Xz;rw[Qh (KY _ fr h) rfl,<-QA (rsD (E.rs f) h<|args.map<|ev E fr)];congr 1
noncomputable def dcv(E:Env)(fv:AV)(args:List AV)(h:Hp):Option (AV×DRec×Option (Nat×AObj)):=
 match fv with
 | .clo (.func g) first cap=>thn (YU E true g (first++args++cap) h) λr=>some (r.1,⟨!Zi (first++args++cap),[],none,none⟩,none)
 |_=>none
def S7{d:Option Nat}{x:Arg}{args:List Arg}{fr:Fr}{h:Hp}:Xz E ⟨d,.callv true x args,none⟩ fr h=dcv E (ev E fr x) (args.map<|ev E fr) h:=by
 unfold Xz dcv YU;rw[Qh (KY _ fr h) rfl];simp only[Zk,ZJ,cond_true];generalize ev E fr x=v;generalize args.map (ev E fr)=vs;cases v with
 |clo fn first cap=>
  cases fn with
  |func g=>
   refine Eq.trans ?_<|W3<|U5 (E:=E) true g (first++vs++cap) h
   congr 1
   funext n
   dsimp only;cases Qm E n true g (first++vs++cap) h<;>rfl
  |_=>exact QA _
 |_=>exact QA _
def S8{us:List (List Nat)}{fr:Fr}{h:Hp}{recs:List DRec}:Zm E [] us fr h recs=some (fr,h):=by
 unfold Zm;simp only[QH];exact QA _
def okd(recs:List DRec)(u:List Nat)(h:Hp)(d:DRec)(wr:Option<|Nat×AObj)(k:Option α):Option α:=bif Zv d recs u&&Ya h wr then k else none
@[congr] def Z9F{recs:List DRec}{u:List Nat}{h:Hp}{d:DRec}{wr:Option (Nat×AObj)}{k:Option α}:okd recs u h d wr k=okd recs u h d wr k:=rfl
def VS{o:AOper}{r:List AOper}{u:List Nat}{us:List (List Nat)}{fr:Fr}{h:Hp}{recs:List DRec}:
 Zm E (o::r) (u::us) fr h recs=thn (Xz E o fr h) λp=>okd recs u h p.2.1 p.2.2 (Zm E r us (ZB fr o.dst p.1) (ZH h p.2.2)<|recs++[p.2.1]):=by
 unfold Zm Xz;have e:(λn=>QH (λo fr h=>Zk E n o fr h) (o::r) (u::us) fr h recs)=λn=>thn (Zk E n o fr h) λp=>okd recs u h p.2.1 p.2.2 (QH (λo fr h=>Zk E n o fr h) r us (ZB fr o.dst p.1) (ZH h p.2.2)<|recs++[p.2.1]):=by
  funext n
  simp only[QH];cases Zk E n o fr h<;>rfl
 rw[e,KW (KY _ _ _) ?_]
 .congr 1
  funext p
  unfold okd;cases(Zv p.2.1 recs u&&Ya h p.2.2)with
  |true=>rfl
  |false=>exact QA _
 .intro p;unfold okd;cases(Zv p.2.1 recs u&&Ya h p.2.2)with
  |true=>exact LC _ _ _ _ _
  |false=>exact U6 _
def nrm(r:Option<|Fr×Hp):Option (AExit×Fr×Hp):=match r with|some p=>some (.normal,p.1,p.2)|none=>none
def S9(fr:Fr)(h:Hp):nrm (some (fr,h))=some (.normal,fr,h):=rfl
def W4(r:Option<|AExit×Fr×Hp)(k:Fr->Hp->Option (AExit×Fr×Hp)):Option (AExit×Fr×Hp):=
 match r with
 |some (.normal,fr,h)=>k fr h
 |r=>r
@[congr] def Z9K{r r':Option (AExit×Fr×Hp)}{k:Fr->Hp->Option (AExit×Fr×Hp)}(h:r=r'):W4 r k=W4 r' k:=by rw[h]
def cnd(v:AV)(x y:Option α):Option α:=match v with| .bool true=>x| .bool false=>y|_=>none
@[congr] def Z9N{v v':AV}{x y:Option α}(h:v=v'):cnd v x y=cnd v' x y:=by rw[h]
def blk(id:Nat)(r:Option<|AExit×Fr×Hp):Option (AExit×Fr×Hp):=
 match r with
 |some (.exit i,fr,h)=>bif i==id then some (.normal,fr,h)else some (.exit i,fr,h)
 |r=>r
def Sa(id:Nat)(fr:Fr)(h:Hp):blk id (some (.normal,fr,h))=some (.normal,fr,h):=rfl
def Sb(id:Nat)(fr:Fr)(h:Hp):blk id (some (.ret,fr,h))=some (.ret,fr,h):=rfl
def Sc(id i:Nat)(fr:Fr)(h:Hp):blk id (some (.exit i,fr,h))=bif i==id then some (.normal,fr,h)else some (.exit i,fr,h):=rfl
def kp(live:List Nat)(n:Nat)(r:Option<|AExit×Fr×Hp):Option (AExit×Fr×Hp):=
 match r with
 |some (e,fr,h)=>some (e,Z2 live fr,Xq n (Z2 live fr) h)
 |none=>none
def Sd(live:List Nat)(n:Nat)(e:AExit)(fr:Fr)(h:Hp):kp live n (some (e,fr,h))=some (e,Z2 live fr,Xq n (Z2 live fr) h):=rfl
def lp(r:Option<|AExit×Fr×Hp)(k:Fr->Hp->Option (AExit×Fr×Hp)):Option (AExit×Fr×Hp):=W4 r k
def Se{fr:Fr}{h:Hp}:Zb E .skip fr h=some (.normal,fr,h):=by
 unfold Zb;rw[Qh (QI _ fr h) rfl];simp only[Rz,RA,RB];exact QA _
def zbW(d sz:Nat)(ps:List<|Nat×Nat)(z:AV)(fr:Fr)(h:Hp):Option (AExit×Fr×Hp):=bif fits sz (Zvr h.length ps z)then some (.normal,put fr d<|.ptr (h.length+ps.length) 0 0 1,h++Zvo ps++[.row sz [Zvr h.length ps z]])else none
def Zzm(d sz:Nat)(ps:List<|Nat×Nat)(z:AV)(fr:Fr)(h:Hp)(hf:fits sz (Zvr h.length ps z)=true):zbW d sz ps z fr h=some (.normal,put fr d<|.ptr (h.length+ps.length) 0 0 1,h++Zvo ps++[.row sz [Zvr h.length ps z]]):=by simp[zbW,hf]
def Zzn{d sz:Nat}{z:AV}{ps:List (Nat×Nat)}{fr:Fr}{h:Hp}:Zb E (.zbox d sz z ps) fr h=zbW d sz ps z fr h:=by
 unfold Zb;rw[Qh (QI _ fr h) rfl];simp only[Zzk];exact QA _
def Zzo{s d off:Nat}{p:Arg}{fr:Fr}{h:Hp}:Zb E (.nils s d off p) fr h=ZvU E s d off p fr h:=by
 unfold Zb;rw[Qh (QI _ fr h) rfl];simp only[Zzl];exact QA _
def Sf{i:Nat}{fr:Fr}{h:Hp}:Zb E (.exit i) fr h=some (.exit i,fr,h):=by
 unfold Zb;rw[Qh (QI _ fr h) rfl];simp only[Rz,RA,RB];exact QA _
def Sg{fr:Fr}{h:Hp}:Zb E .ret fr h=some (.ret,fr,h):=by
 unfold Zb;rw[Qh (QI _ fr h) rfl];simp only[Rz,RA,RB];exact QA _
def Sh{ops:List AOper}{fr:Fr}{h:Hp}:Zb E (.region ops) fr h=nrm (Z9 E ops fr h):=by
 unfold Zb Z9;rw[Qh (QI _ fr h) rfl];simp only[Lr,VR];rw[W3<|VQ _ _ _];cases lim (λn=>ZS E n ops fr h)<;>rfl
def Si{un:List (List Nat)}{p1 p2:List AOper}{fr:Fr}{h:Hp}:Zb E (.draw un p1 p2) fr h=nrm (thn (Zm E p1 un fr h []) λp=>Z9 E p2 p.1 p.2):=by
 have e:Zb E (.draw un p1 p2) fr h=lim λn=>thn (QH (λo fr h=>Zk E n o fr h) p1 un fr h []) λp=>nrm (ZS E n p2 p.1 p.2):=by
  unfold Zb;rw[Qh (QI _ fr h) rfl];congr 1
  funext n
  rw[Ls];cases QH (λo fr h=>Zk E n o fr h) p1 un fr h []with
  |none=>rfl
  |some p=>
   simp only[ZM];cases ZS E n p2 p.1 p.2<;>rfl
 have mn:∀p:Fr×Hp,Qu λn=>nrm (ZS E n p2 p.1 p.2):=by
  intro p n x hx;cases hr:ZS E n p2 p.1 p.2 with
  |none=>simp[hr,nrm]at hx
  |some q=>simp only[hr,nrm]at hx;simp only[VQ _ _ _ _ _ hr,nrm];exact hx
 rw[e];refine(KW (k:=λn p=>nrm<|ZS E n p2 p.1 p.2) (LC p1 un fr h []) mn).trans ?_
 show thn (Zm E p1 un fr h []) _=_
 cases Zm E p1 un fr h []with
 |none=>rfl
 |some p=>
  simp only[ZM];refine GB λx=>?_
  rw[Yr<|mn p];unfold Z9;constructor
  .rintro⟨n,hn⟩;cases hr:ZS E n p2 p.1 p.2 with
   |none=>simp[hr,nrm]at hn
   |some q=>rw[(Yr<|VQ _ _ _).2 ⟨n,hr⟩];simpa[hr]using hn
  .intro hx;cases hr:lim (λn=>ZS E n p2 p.1 p.2)with
   |none=>simp[hr,nrm]at hx
   |some q=>
    obtain⟨n,hn⟩:=(Yr<|VQ _ _ _).1 hr;exact⟨n,by rw[hn];simpa[hr]using hx⟩
def Sj{a b:ACode}{fr:Fr}{h:Hp}:Zb E (.seq a b) fr h=W4 (Zb E a fr h) λfr h=>Zb E b fr h:=by
 unfold Zb;rw[Qh (QI _ fr h) rfl];have e:(λn=>Ze E (n+1) (.seq a b) fr h)=λn=>thn (Ze E n a fr h) λp=>match p with|(.normal,fr,h)=>Ze E n b fr h|p=>some p:=by
  funext n
  rw[Lt];cases Ze E n a fr h with
  |none=>rfl
  |some p=>obtain⟨e,fr,h⟩:=p;cases e<;>rfl
 rw[e,KW (QI _ _ _) ?_]
 .cases lim (λn=>Ze E n a fr h)with
  |none=>rfl
  |some p=>
   obtain⟨e,fr,h⟩:=p;cases e with
   |normal=>rfl
   |exit i=>exact QA _
   |ret=>exact QA _
 .intro p;obtain⟨e,fr,h⟩:=p;cases e with
  |normal=>exact QI _ _ _
  |exit i=>exact U6 _
  |ret=>exact U6 _
def Sk{x:Arg}{a b:ACode}{fr:Fr}{h:Hp}:Zb E (.cond x a b) fr h=cnd (ev E fr x) (Zb E a fr h) (Zb E b fr h):=by
 unfold Zb;rw[Qh (QI _ fr h) rfl];simp only[Lu];generalize ev E fr x=v;cases v with
 |bool c=>cases c<;>rfl
 |_=>exact QA _
def Sl{id:Nat}{b:ACode}{fr:Fr}{h:Hp}:Zb E (.block id b) fr h=blk id (Zb E b fr h):=by
 unfold Zb;rw[Qh (QI _ fr h) rfl];have e:(λn=>Ze E (n+1) (.block id b) fr h)=λn=>thn (Ze E n b fr h) λp=>blk id (some p):=by
  funext n
  rw[Lv];cases Ze E n b fr h with
  |none=>rfl
  |some p=>obtain⟨e,fr,h⟩:=p;cases e<;>rfl
 rw[e,W3<|QI _ _ _];cases lim (λn=>Ze E n b fr h)<;>rfl
def Sm{live:List Nat}{b:ACode}{fr:Fr}{h:Hp}:Zb E (.keep live b) fr h=kp live h.length (Zb E b fr h):=by
 unfold Zb;rw[Qh (QI _ fr h) rfl];have e:(λn=>Ze E (n+1) (.keep live b) fr h)=λn=>thn (Ze E n b fr h) λp=>kp live h.length (some p):=by
  funext n
  rw[Ly];cases Ze E n b fr h<;>rfl
 rw[e,W3<|QI _ _ _];cases lim (λn=>Ze E n b fr h)<;>rfl
def gh(d off s:Nat)(r:Option<|AExit×Fr×Hp):Option (AExit×Fr×Hp):=
 match r with
 |some (.normal,fr,h)=>(ghW d off s fr h).map λh2=>(.normal,fr,h2)
 |_=>none
def ZSr(d off s:Nat)(fr:Fr)(h:Hp):gh d off s (some (.normal,fr,h))=(ghW d off s fr h).map λh2=>(.normal,fr,h2):=rfl
def ZSs{d off s:Nat}{b:ACode}{fr:Fr}{h:Hp}:Zb E (.ghost d off s b) fr h=gh d off s (Zb E b fr h):=by
 unfold Zb;rw[Qh (QI _ fr h) rfl];have e:(λn=>Ze E (n+1) (.ghost d off s b) fr h)=λn=>thn (Ze E n b fr h) λp=>gh d off s (some p):=by
  funext n
  rw[ZR4];cases Ze E n b fr h with
  |none=>rfl
  |some p=>obtain⟨e,fr,h⟩:=p;cases e<;>rfl
 rw[e,W3<|QI _ _ _];cases lim (λn=>Ze E n b fr h)<;>rfl
def RG{live:List Nat}{b:ACode}{fr:Fr}{h:Hp}:Zb E (.loop live b) fr h=lp (Zb E b (Z2 live fr) h) λfr h=>Zb E (.loop live b) fr h:=by
 unfold Zb;rw[Qh (QI _ fr h) rfl];have e:(λn=>Ze E (n+1) (.loop live b) fr h)=λn=>thn (Ze E n b (Z2 live fr) h) λp=>match p with|(.normal,fr,h)=>Ze E n (.loop live b) fr h|p=>some p:=by
  funext n
  rw[Lw];cases Ze E n b (Z2 live fr) h with
  |none=>rfl
  |some p=>obtain⟨e,fr,h⟩:=p;cases e<;>rfl
 rw[e,KW (QI _ _ _) ?_]
 .cases lim (λn=>Ze E n b (Z2 live fr) h)with
  |none=>rfl
  |some p=>
   obtain⟨e,fr,h⟩:=p;cases e with
   |normal=>rfl
   |exit i=>exact QA _
   |ret=>exact QA _
 .intro p;obtain⟨e,fr,h⟩:=p;cases e with
  |normal=>exact QI _ _ _
  |exit i=>exact U6 _
  |ret=>exact U6 _
def Sn(fr:Fr)(live:List Nat)(t:Nat):get (live.map λt=>(t,get fr t)) t=if t∈live then get fr t else .bot:=by
 induction live with
 |nil=>rfl
 |cons d r ih=>
  simp only[ZX3,get];by_cases e:d=t
  .subst e;simp
  .have hb:(d==t)=false:=by simpa using e
   rw[hb,cond_false,ih];have:t≠d:=λe2=>e e2.symm
   simp[this]
def Sp(live:List Nat)(fr:Fr):Z2 live (Z2 live fr)=Z2 live fr:=by
 unfold Z2;apply ZZh;intro t ht;rw[Sn,if_pos ht]
def GF{live:List Nat}{b:ACode}{fr:Fr}{h:Hp}:Zb E (.loop live b) fr h=Zb E (.loop live b) (Z2 live fr) h:=by
 rw[RG,RG (fr:=Z2 live fr),Sp]
def J0(fr:Fr)(b:Nat)(r:Option<|AV×Hp):Option (AExit×Fr×Hp):=
 match r with
 |some (_,h')=>
  match h'[b]? with
  |some (.loop .busy _ _ _ _ _)=>none
  |some (.loop _ pend fr' ps assign body)=>some (pend,fr,setH h' b<|.loop .exhausted pend fr' ps assign body)
  |_=>none
 |none=>none
noncomputable def rf(E:Env)(fv:AV)(ps:List Nat)(assign body:ACode)(fr:Fr)(h:Hp):Option (AExit×Fr×Hp):=
 match fv with
 | .clo (.func g) first cap=>J0 fr h.length<|VP E g (first++[.yld h.length]++cap)<|h++[.loop .ready .normal fr ps assign body]
 |_=>none
def Sq{g:Nat}{first cap:List AV}{ps:List Nat}{assign body:ACode}{fr:Fr}{h:Hp}:
 rf E (.clo (.func g) first cap) ps assign body fr h=J0 fr h.length (VP E g (first++[.yld h.length]++cap)<|h++[.loop .ready .normal fr ps assign body]):=rfl
def Sr{f:Arg}{ps:List Nat}{assign body:ACode}{fr:Fr}{h:Hp}:Zb E (.rangeFunc f ps assign body) fr h=rf E (ev E fr f) ps assign body fr h:=by
 unfold Zb rf VP;rw[Qh (QI _ fr h) rfl];simp only[Lz];generalize ev E fr f=v;cases v with
 |clo fn first cap=>
  cases fn with
  |func g=>
   dsimp only;generalize hr:(λn=>QX E n g (first++[.yld h.length]++cap)<|h++[.loop .ready .normal fr ps assign body])=r
   have hm:Qu r:=by rw[<-hr];exact LB _ _ _
   have e:J0 fr h.length (lim r)=thn (lim r) λp=>J0 fr h.length (some p):=by cases lim r<;>rfl
   rw[e,<-W3 hm,<-hr];congr 1
   funext n
   dsimp only;cases QX E n g (first++[.yld h.length]++cap) (h++[.loop .ready .normal fr ps assign body])<;>rfl
  |_=>exact QA _
 |_=>exact QA _
def Ss{b:Nat}{args:List AV}{h:Hp}{fr fr0 fr1 fr2:Fr}{h1 h2:Hp}{e:AExit}{ps ps2 ps3:List Nat}{assign body as2 bd2 as3 bd3:ACode}{fr3:Fr}{lst:LoopState}{pend:AExit}{frl:Fr}
 (hb:h[b]?=some (.loop .ready .normal fr ps assign body)) (hp:WY ps args fr=some fr0)
 (hc:Zb E assign fr0 h=some (.normal,fr1,h1)) (hb1:h1[b]?=some (.loop .ready .normal frl ps2 as2 bd2))
 (hc2:Zb E body fr1 (setH h1 b<|.loop .busy .normal frl ps2 as2 bd2)=some (e,fr2,h2)) (hb2:h2[b]?=some (.loop lst pend fr3 ps3 as3 bd3)):
 U4 E b args h=some (match e with
  | .normal=>(.bool true,setH h2 b<|.loop .ready .normal fr3 ps3 as3 bd3)
  |e=>(.bool false,setH h2 b<|.loop .done e fr3 ps3 as3 bd3)):=by
 unfold U4;rw[Yr<|TY _ _ _];obtain⟨n,hn⟩:=(Yr<|QI _ _ _).1 hc;obtain⟨m,hm⟩:=(Yr<|QI _ _ _).1 hc2;refine⟨max n m+1,?_⟩;simp only[YG,hb,hp];have e1:=(QI (E:=E) assign fr0 h).le (Nat.le_max_left n m) hn;have e2:=(QI (E:=E) body fr1<|setH h1 b<|.loop .busy .normal frl ps2 as2 bd2).le (Nat.le_max_right n m) hm;simp only[e1,hb1,e2,hb2];cases e<;>rfl
end Go.AM
namespace Go.AM
instance iDr:Dr:=⟨False⟩
open Go Go.Sort
variable {P:Program}
end Go.AM
namespace Go.AM
open Go
variable [Dr]
variable {P:Program} {E E1:Env}
def Ctx.env{T:Ty}{X:Xt}{h:Hp}{w:World}(c:Ctx E T X h w)(hgl:∀g,E1.gl g=E.gl g):Ctx E1 T X h w:=
 ⟨c.m,λg=>by rw[hgl];exact c.gl g,c.hX⟩
end Go.AM
namespace Go.AM
open Go
variable [Dr]
variable {P:Program} {E E1:Env} {T T2:Ty} {X X2:Xt} {w:World} {h:Hp}
end Go.AM
namespace Go.AM
open Go
variable [Dr]
variable {P:Program} {E E1:Env}
def ZSt(ok1:EnvOk P E1)(hgl:∀g,E1.gl g=E.gl g){f:Nat}{s:List AV->Hp->Option (AV×Hp)}(hs:∀args h v h',s args h=some (v,h')->YU E1 true f args h=some (v,h')):Qn P E f s:=by
 intro args h v h' he T X w rargs hcr c hr;obtain⟨k,hk⟩:=(Yr<|U5 true f args h).1 (hs _ _ _ _ he);exact(TM ok1 k).call true f args h v h' hk T X w rargs hcr (c.env hgl) hr
def ZOA(g:List AV->Option AV)(args:List AV)(h:Hp):Option (AV×Hp):=bif Z4 args then(g args).map λv=>(v,h)else none
def ZPh(ok1:EnvOk P E1)(hgl:∀g,E1.gl g=E.gl g){f:Nat}{g:List AV->Option AV}(hs:∀args v,g args=some v->pfn E1 f args=some v):Qn P E f (ZOA g):=by
 refine ZSt ok1 hgl<|λargs h v h' he=>?_
 unfold ZOA at he;cases hc:Z4 args with
 |false=>rw[hc]at he;cases he
 |true=>
  rw[hc,cond_true,ZXi]at he;obtain⟨v',h1,h2⟩:=he;cases h2;rw[GD];unfold Ql;rw[hc,cond_true,ZM,hs args v h1,ZM]
def ZQ4(E:Env)(n f:Nat)(args:List AV):Option AV:=(Qz E n f args []).bind λr=>YE r.2 r.1
def ZSu{n f:Nat}{args:List AV}{v:AV}(h:ZQ4 E n f args=some v):pfn E f args=some v:=by
 unfold ZQ4 at h;obtain⟨r,h1,h2⟩:=ZYC.1 h;unfold pfn fnV;rw[(Yr<|GC f args []).2 ⟨n,h1⟩,ZM];exact h2
mutual
def same:AV->AV->Bool
 | .bot,.bot=>true
 | .bool a,.bool b=>a==b
 | .int j a,.int k b=>decide (j=k)&&decide (a=b)
 | .str a,.str b=>decide (a.data.toList=b.data.toList)
 | .nilp,.nilp=>true
 | .nilsl,.nilsl=>true
 | .nilmap,.nilmap=>true
 | .nilfn,.nilfn=>true
 | .nilif,.nilif=>true
 | .agg a,.agg b=>ZOs a b
 | .tup a,.tup b=>ZOs a b
 | .iptr a x,.iptr b y=>a==b&&ZOs x y
 | .isl a b c x,.isl d e f y=>a==d&&(b==e&&(c==f&&ZOs x y))
 |_,_=>false
def ZOs:List AV->List AV->Bool
 |[],[]=>true
 |a::r,b::s=>same a b&&ZOs r s
 |_,_=>false
end
mutual
def same_eq:∀(a b:AV),same a b=true->a=b
 | .bot,b,h=>by cases b<;>first|rfl|(simp[same]at h)
 | .bool a,b,h=>by cases b<;>simp[same]at h;rw[h]
 | .int j a,b,h=>by cases b<;>simp[same]at h;rw[h.1,h.2]
 | .str a,b,h=>by
  cases b<;>simp[same]at h
  exact congrArg AV.str<|ByteArray.ext h
 | .nilp,b,h=>by cases b<;>first|rfl|(simp[same]at h)
 | .nilsl,b,h=>by cases b<;>first|rfl|(simp[same]at h)
 | .nilmap,b,h=>by cases b<;>first|rfl|(simp[same]at h)
 | .nilfn,b,h=>by cases b<;>first|rfl|(simp[same]at h)
 | .nilif,b,h=>by cases b<;>first|rfl|(simp[same]at h)
 | .agg a,b,h=>by cases b<;>simp[same]at h;rw[ZP7 _ _ h]
 | .tup a,b,h=>by cases b<;>simp[same]at h;rw[ZP7 _ _ h]
 | .iptr a x,b,h=>by cases b<;>simp[same]at h;rw[h.1,ZP7 _ _ h.2]
 | .isl a b c x,d,h=>by cases d<;>simp[same]at h;rw[h.1,h.2.1,h.2.2.1,ZP7 _ _ h.2.2.2]
 | .imap ..,b,h=>by cases b<;>simp[same]at h
 | .ifc ..,b,h=>by cases b<;>simp[same]at h
 | .clo ..,b,h=>by cases b<;>simp[same]at h
 | .ptr ..,b,h=>by cases b<;>simp[same]at h
 | .sl ..,b,h=>by cases b<;>simp[same]at h
 | .mp _,b,h=>by cases b<;>simp[same]at h
 | .it _,b,h=>by cases b<;>simp[same]at h
 | .yld _,b,h=>by cases b<;>simp[same]at h
def ZP7:∀(a b:List AV),ZOs a b=true->a=b
 |[],[],_=>rfl
 |[],_::_,h=>by simp[ZOs]at h
 |_::_,[],h=>by simp[ZOs]at h
 |a::r,b::s,h=>by
  simp only[ZOs,ZWT]at h;rw[same_eq a b h.1,ZP7 r s h.2]
end
def ZPi(l:List<|List AV×AV)(args:List AV):Option AV:=(l.find? λp=>ZOs p.1 args).map (·.2)
def ZQ5{l:List (List AV×AV)}{f:Nat}(h:∀p∈l,pfn E f p.1=some p.2)(args:List AV)(v:AV)(hv:ZPi l args=some v):pfn E f args=some v:=by
 unfold ZPi at hv;obtain⟨p,h1,rfl⟩:=ZXi.1 hv;have h2:=ZYD h1;rw[<-ZP7 _ _ h2];exact h p<|ZYM h1
def okP(E:Env)(n f:Nat)(args:List AV)(v:AV):Bool:=match ZQ4 E n f args with|some x=>same x v|none=>false
def ZO3{n f:Nat}{args:List AV}{v:AV}(h:okP E n f args v=true):pfn E f args=some v:=by
 unfold okP at h;split at h
 .next x e=>rw[<-same_eq _ _ h];exact ZSu e
 .cases h
end Go.AM
namespace Go.AM
open Go
variable {E:Env}
def emp:ByteArray:=⟨#[]⟩
def B(l:List UInt8):ByteArray:=⟨⟨l⟩⟩
abbrev o(d:Nat)(op:AOp):AOper:=⟨some d,op,none⟩
def Su(t:Nat):get [] t=.bot:=rfl
def Sv(k:Nat)(v:AV)(r:Fr)(t:Nat):get ((k,v)::r) t=bif k==t then v else get r t:=rfl
def GG(fr:Fr)(d:Nat)(v:AV):ZB fr (some d) v=(d,v)::fr:=rfl
def RH(fr:Fr)(v:AV):ZB fr none v=fr:=rfl
def Sw(fr:Fr)(t:Nat):ev E fr (.t t)=get fr t:=rfl
def Sx(fr:Fr)(v:AV):ev E fr (.c v)=v:=rfl
def Sy(fr:Fr)(f:Nat):ev E fr (.f f)=.clo (.func f) [] []:=rfl
def Sz(fr:Fr)(g:Nat):ev E fr (.g g)=E.gl g:=rfl
def SA(fr:Fr):Z2 [] fr=[]:=rfl
def SB(t:Nat)(l:List Nat)(fr:Fr):Z2 (t::l) fr=(t,get fr t)::Z2 l fr:=rfl
def SC(i:Nat):QP i []=[]:=rfl
def SD(i:Nat)(v:AV)(r:List AV):QP i (v::r)=(i,v)::QP (i+1) r:=rfl
def J1(h:Hp)(x:AObj):setH h h.length x=h++[x]:=by
 unfold setH;have:Nat.blt h.length h.length=false:=by rw[ZY5];simp
 rw[this,cond_false]
def SE(n:Nat)(fr:Fr):Xq n fr []=[]:=by
 unfold Xq;cases Zd n (fr.map (·.2))&&X4 n (List.take n [])<;>simp
def GH(fr:Fr)(h:Hp):Xq h.length fr h=h:=by
 unfold Xq;cases Zd h.length (fr.map (·.2))&&X4 h.length (List.take h.length h)<;>simp
def evs(E:Env)(fr:Fr)(l:List Arg):List AV:=l.map<|ev E fr
def SF(fr:Fr):evs E fr []=[]:=rfl
def SG(fr:Fr)(x:Arg)(l:List Arg):evs E fr (x::l)=ev E fr x::evs E fr l:=rfl
noncomputable def sq(E:Env)(b:ACode)(r:Option<|AExit×Fr×Hp):Option (AExit×Fr×Hp):=W4 r λfr h=>Zb E b fr h
def SH(b:ACode)(fr:Fr)(h:Hp):sq E b (some (.normal,fr,h))=Zb E b fr h:=rfl
def SI(b:ACode)(i:Nat)(fr:Fr)(h:Hp):sq E b (some (.exit i,fr,h))=some (.exit i,fr,h):=rfl
def SJ(b:ACode)(fr:Fr)(h:Hp):sq E b (some (.ret,fr,h))=some (.ret,fr,h):=rfl
def SK{a b:ACode}{fr:Fr}{h:Hp}:Zb E (.seq a b) fr h=sq E b (Zb E a fr h):=Sj
noncomputable def cn(E:Env)(a b:ACode)(fr:Fr)(h:Hp)(v:AV):Option (AExit×Fr×Hp):=cnd v (Zb E a fr h)<|Zb E b fr h
def SM(a b:ACode)(fr:Fr)(h:Hp):cn E a b fr h (.bool true)=Zb E a fr h:=rfl
def SN(a b:ACode)(fr:Fr)(h:Hp):cn E a b fr h (.bool false)=Zb E b fr h:=rfl
def SO{x:Arg}{a b:ACode}{fr:Fr}{h:Hp}:Zb E (.cond x a b) fr h=cn E a b fr h (ev E fr x):=Sk
noncomputable def lpc(E:Env)(live:List Nat)(b:ACode)(r:Option<|AExit×Fr×Hp):Option (AExit×Fr×Hp):=W4 r λfr h=>Zb E (.loop live b) fr h
def LH(live:List Nat)(b:ACode)(fr:Fr)(h:Hp):lpc E live b (some (.normal,fr,h))=Zb E (.loop live b) fr h:=rfl
def SP(live:List Nat)(b:ACode)(i:Nat)(fr:Fr)(h:Hp):lpc E live b (some (.exit i,fr,h))=some (.exit i,fr,h):=rfl
def SQ(live:List Nat)(b:ACode)(fr:Fr)(h:Hp):lpc E live b (some (.ret,fr,h))=some (.ret,fr,h):=rfl
def J2{live:List Nat}{b:ACode}{fr:Fr}{h:Hp}:Zb E (.loop live b) fr h=lpc E live b (Zb E b (Z2 live fr) h):=RG
noncomputable def stp(E:Env)(r:List AOper)(d:Option Nat)(fr:Fr)(h:Hp)(v:Option AV):Option (Fr×Hp):=thn v λv=>Z9 E r (ZB fr d v) h
def SR(r:List AOper)(d:Option Nat)(fr:Fr)(h:Hp)(v:AV):stp E r d fr h (some v)=Z9 E r (ZB fr d v) h:=rfl
noncomputable def stw(E:Env)(r:List AOper)(d:Option Nat)(fr:Fr)(x:Option<|AV×Hp):Option (Fr×Hp):=thn x λp=>Z9 E r (ZB fr d p.1) p.2
def LI(r:List AOper)(d:Option Nat)(fr:Fr)(v:AV)(h:Hp):stw E r d fr (some (v,h))=Z9 E r (ZB fr d v) h:=rfl
noncomputable def gst(E:Env)(d:Option Nat)(op:AOp)(r:List AOper)(fr:Fr)(h:Hp)(b:Bool)(v:AV):Option (Fr×Hp):=
 thn (grd v b (opV E ⟨d,op,none⟩ fr h)<|some (ZB fr d<|.tup [],h)) λp=>Z9 E r p.1 p.2
def J3{d:Option Nat}{op:AOp}{r:List AOper}{fr:Fr}{h:Hp}:Z9 E (⟨d,op,none⟩::r) fr h=thn (opV E ⟨d,op,none⟩ fr h) λp=>Z9 E r p.1 p.2:=V9
def SS{d:Option Nat}{op:AOp}{t:Nat}{b:Bool}{r:List AOper}{fr:Fr}{h:Hp}:Z9 E (⟨d,op,some (t,b)⟩::r) fr h=gst E d op r fr h b (get fr t):=by
 rw[V9,S4];rfl
def LJ(d:Option Nat)(op:AOp)(r:List AOper)(fr:Fr)(h:Hp):gst E d op r fr h true (.bool true)=Z9 E (⟨d,op,none⟩::r) fr h:=by rw[V9];rfl
def LK(d:Option Nat)(op:AOp)(r:List AOper)(fr:Fr)(h:Hp):gst E d op r fr h false (.bool false)=Z9 E (⟨d,op,none⟩::r) fr h:=by rw[V9];rfl
def LL(d:Option Nat)(op:AOp)(r:List AOper)(fr:Fr)(h:Hp):gst E d op r fr h true (.bool false)=Z9 E r (ZB fr d<|.tup []) h:=rfl
def LM(d:Option Nat)(op:AOp)(r:List AOper)(fr:Fr)(h:Hp):gst E d op r fr h false (.bool true)=Z9 E r (ZB fr d<|.tup []) h:=rfl
def ST(d:Option Nat)(op:AOp)(r:List AOper)(fr:Fr)(h:Hp)(b:Bool):gst E d op r fr h b (.tup [])=Z9 E r (ZB fr d<|.tup []) h:=rfl
def QB{d:Option Nat}{op:AOp}{r:List AOper}{fr:Fr}{h:Hp}{v:Option AV}{rs:AV->List Nat}(hc:op.isCall=false)(he:Z8 E fr h h.length op=v.map λx=>(x,rs x,none)):Z9 E (⟨d,op,none⟩::r) fr h=stp E r d fr h v:=by
 rw[J3,GE hc,he];cases v<;>rfl
def X9{d:Option Nat}{op:AOp}{r:List AOper}{fr:Fr}{h:Hp}{v:Option (AV×Hp)}(hc:op.isCall=false)(he:(thn (Z8 E fr h h.length op) λx=>some (x.1,ZH h x.2.2))=v):Z9 E (⟨d,op,none⟩::r) fr h=stw E r d fr v:=by
 rw[J3,GE hc,<-he];cases Z8 E fr h h.length op<;>rfl
def SU{d:Option Nat}{x:Arg}{r:List AOper}{fr:Fr}{h:Hp}:Z9 E (⟨d,.mv x,none⟩::r) fr h=Z9 E r (ZB fr d<|ev E fr x) h:=
 QB (v:=some<|ev E fr x) (rs:=λ_=>[]) rfl rfl
def SV{d:Option Nat}{sz:Nat}{r:List AOper}{fr:Fr}{h:Hp}:Z9 E (⟨d,.own sz,none⟩::r) fr h=Z9 E r (ZB fr d<|.sl h.length 0 0 0 false) (h++[.row sz []]):=
 X9 (v:=some (_,h++[.row sz []])) rfl (by simp only[Z8,ZM,ZH,J1])
def SW{d:Option Nat}{r:List AOper}{fr:Fr}{h:Hp}:Z9 E (⟨d,.mkm,none⟩::r) fr h=Z9 E r (ZB fr d<|.mp h.length) (h++[.map [] []]):=
 X9 (v:=some (_,h++[.map [] []])) rfl (by simp only[Z8,ZM,ZH,J1])
def RI:AV->AV->AV->Option AV
 | .bool true,a,_=>some a
 | .bool false,_,b=>some b
 |_,_,_=>none
def SX(a b:AV):RI (.bool true) a b=some a:=rfl
def SY(a b:AV):RI (.bool false) a b=some b:=rfl
def SZ{d:Option Nat}{c a b:Arg}{r:List AOper}{fr:Fr}{h:Hp}:Z9 E (⟨d,.pick c a b,none⟩::r) fr h=stp E r d fr h (RI (ev E fr c) (ev E fr a)<|ev E fr b):=
 QB (rs:=λ_=>[]) rfl (by
  simp only[Z8];generalize ev E fr c=v;cases v<;>first|rfl|skip
  case bool b=>cases b<;>rfl)
def A0{d:Option Nat}{f:BinOp}{x y:Arg}{r:List AOper}{fr:Fr}{h:Hp}:Z9 E (⟨d,.bin f x y,none⟩::r) fr h=stp E r d fr h (YZ f (ev E fr x)<|ev E fr y):=
 QB (rs:=λ_=>[]) rfl rfl
def A1{d:Option Nat}{f:UnOp}{x:Arg}{r:List AOper}{fr:Fr}{h:Hp}:Z9 E (⟨d,.un f x,none⟩::r) fr h=stp E r d fr h (Vy f<|ev E fr x):=
 QB (rs:=λ_=>[]) rfl rfl
def GI(neg:Bool):Option Bool->Option AV
 |some b=>some<|.bool<|bif neg then !b else b
 |none=>none
def A2(b:Bool):GI true (some b)=some (.bool<|!b):=rfl
def A3(b:Bool):GI false (some b)=some (.bool b):=rfl
def A4{d:Option Nat}{neg ag:Bool}{ks:List Nat}{x y:Arg}{r:List AOper}{fr:Fr}{h:Hp}:Z9 E (⟨d,.eqv neg ag ks x y,none⟩::r) fr h=stp E r d fr h (GI neg<|Zz ag ks (ev E fr x)<|ev E fr y):=
 QB (rs:=λ_=>[]) rfl (by
  simp only[Z8,GI,Zl];cases Zz ag ks (ev E fr x) (ev E fr y)<;>cases neg<;>rfl)
def RJ:Option IntKind->AV->Option AV
 |some k,.int _ n=>some<|.int k<|k.wrap n
 |none,.str s=>some<|.str s
 |_,_=>none
def A5(k j:IntKind)(n:Int):RJ (some k) (.int j n)=some (.int k<|k.wrap n):=rfl
def A6(s:ByteArray):RJ none (.str s)=some (.str s):=rfl
def A7{d:Option Nat}{k:Option IntKind}{x:Arg}{r:List AOper}{fr:Fr}{h:Hp}:Z9 E (⟨d,.conv k x,none⟩::r) fr h=stp E r d fr h (RJ k<|ev E fr x):=
 QB (rs:=λ_=>[]) rfl (by
  simp only[Z8];generalize ev E fr x=v;cases k<;>cases v<;>rfl)
def LN(n:Option Nat)(off:Nat):AV->Option AV
 | .agg cs=>takeC n<|cs.drop off
 |_=>none
def A8(n:Option Nat)(off:Nat)(cs:List AV):LN n off (.agg cs)=takeC n (cs.drop off):=rfl
def A9{d:Option Nat}{n:Option Nat}{off:Nat}{x:Arg}{r:List AOper}{fr:Fr}{h:Hp}:Z9 E (⟨d,.fld n off x,none⟩::r) fr h=stp E r d fr h (LN n off<|ev E fr x):=
 QB (rs:=λ_=>[]) rfl (by
  simp only[Z8];generalize ev E fr x=v;cases v<;>rfl)
def LO(i:Nat):AV->Option AV
 | .tup vs=>vs[i]?
 |_=>none
def Aa(i:Nat)(vs:List AV):LO i (.tup vs)=vs[i]?:=rfl
def Ab{d:Option Nat}{x:Arg}{i:Nat}{r:List AOper}{fr:Fr}{h:Hp}:Z9 E (⟨d,.ext x i,none⟩::r) fr h=stp E r d fr h (LO i<|ev E fr x):=
 QB (rs:=λ_=>[]) rfl (by
  simp only[Z8];generalize ev E fr x=v;cases v<;>rfl)
def Ac{d:Option Nat}{fn:Fn}{f c:List Arg}{r:List AOper}{fr:Fr}{h:Hp}:Z9 E (⟨d,.mkf fn f c,none⟩::r) fr h=Z9 E r (ZB fr d<|.clo fn (evs E fr f)<|evs E fr c) h:=
 QB (v:=some<|.clo fn (evs E fr f)<|evs E fr c) (rs:=λ_=>[]) rfl rfl
def Ad{d:Option Nat}{t:TypeId}{x:Arg}{r:List AOper}{fr:Fr}{h:Hp}:Z9 E (⟨d,.mkif t x,none⟩::r) fr h=Z9 E r (ZB fr d<|.ifc t<|ev E fr x) h:=
 QB (v:=some<|.ifc t<|ev E fr x) (rs:=λ_=>[]) rfl rfl
def mmV(mx:Bool):AV->AV->Option AV
 | .int k a,.int _ b=>some<|.int k<|bif mx then(if b>a then b else a)else(if b<a then b else a)
 |_,_=>none
def Ae(k j:IntKind)(a b:Int):mmV false (.int k a) (.int j b)=some (.int k<|min a b):=by
 have e:(if b<a then b else a)=min a b:=by omega
 simp only[mmV,cond_false,e]
def Af(k j:IntKind)(a b:Int):mmV true (.int k a) (.int j b)=some (.int k<|max a b):=by
 have e:(if b>a then b else a)=max a b:=by omega
 simp only[mmV,cond_true,e]
def Ag{d:Option Nat}{mx:Bool}{x y:Arg}{r:List AOper}{fr:Fr}{h:Hp}:Z9 E (⟨d,.mm mx x y,none⟩::r) fr h=stp E r d fr h (mmV mx (ev E fr x)<|ev E fr y):=
 QB (rs:=λ_=>[]) rfl (by
  simp only[Z8];generalize ev E fr x=v;generalize ev E fr y=u;cases v<;>cases u<;>rfl)
def evp(E:Env)(fr:Fr)(ps:List<|Nat×Nat×Arg):List (Nat×Nat×AV):=ps.map λp=>(p.1,p.2.1,ev E fr p.2.2)
def Ah(fr:Fr):evp E fr []=[]:=rfl
def Ai(fr:Fr)(a b:Nat)(x:Arg)(l:List<|Nat×Nat×Arg):evp E fr ((a,b,x)::l)=(a,b,ev E fr x)::evp E fr l:=rfl
def U7:Option (List AV)->Option AV
 |some cs=>some<|.agg cs
 |none=>none
def Aj(cs:List AV):U7 (some cs)=some (.agg cs):=rfl
def Ak{d:Option Nat}{z:List AV}{ps:List (Nat×Nat×Arg)}{r:List AOper}{fr:Fr}{h:Hp}:Z9 E (⟨d,.build z ps,none⟩::r) fr h=stp E r d fr h (U7<|fill z<|evp E fr ps):=
 QB (rs:=λ_=>[]) rfl (by
  simp only[Z8,Zl,evp,U7];cases fill z (ps.map λp=>(p.1,p.2.1,ev E fr p.2.2))<;>rfl)
def evq(E:Env)(fr:Fr)(ps:List<|Nat×Arg):List (Nat×AV):=ps.map λp=>(p.1,ev E fr p.2)
def Al(fr:Fr):evq E fr []=[]:=rfl
def Am(fr:Fr)(a:Nat)(x:Arg)(l:List<|Nat×Arg):evq E fr ((a,x)::l)=(a,ev E fr x)::evq E fr l:=rfl
def GJ(ex:Bool)(sz:Nat)(z:AV):Option (List AV)->Option AV
 |some es=>bif fits sz z&&Z4 es then some (.isl false ex sz es)else none
 |none=>none
def Ao(ex:Bool)(sz:Nat)(z:AV)(es:List AV)(h1:fits sz z=true)(h2:Z4 es=true):GJ ex sz z (some es)=some (.isl false ex sz es):=by simp[GJ,h1,h2]
def Ap{d:Option Nat}{ex:Bool}{sz:Nat}{z:AV}{n:Nat}{ps:List (Nat×Arg)}{r:List AOper}{fr:Fr}{h:Hp}:Z9 E (⟨d,.bsl true ex sz z n ps,none⟩::r) fr h=stp E r d fr h (GJ ex sz z<|YC sz (List.replicate n z)<|evq E fr ps):=
 QB (rs:=λ_=>[]) rfl (by
  simp only[Z8,evq,GJ];cases YC sz (List.replicate n z) (ps.map λp=>(p.1,ev E fr p.2))with
  |none=>rfl
  |some es=>
   simp only[cond_true];cases fits sz z<;>cases Z4 es<;>rfl)
def GK(ex:Bool)(h:Hp)(sz:Nat)(z:AV)(n:Nat):Option (List AV)->Option (AV×Hp)
 |some es=>bif fits sz z then some (.sl h.length n 0 n<|!ex,h++[.row sz es])else none
 |none=>none
def Aq(h:Hp)(sz:Nat)(z:AV)(n:Nat)(es:List AV)(h1:fits sz z=true):GK false h sz z n (some es)=some (.sl h.length n 0 n true,h++[.row sz es]):=by simp[GK,h1]
def ZMd(h:Hp)(sz:Nat)(z:AV)(n:Nat)(es:List AV)(h1:fits sz z=true):GK true h sz z n (some es)=some (.sl h.length n 0 n false,h++[.row sz es]):=by simp[GK,h1]
def Ar{d:Option Nat}{ex:Bool}{sz:Nat}{z:AV}{n:Nat}{ps:List (Nat×Arg)}{r:List AOper}{fr:Fr}{h:Hp}:Z9 E (⟨d,.bsl false ex sz z n ps,none⟩::r) fr h=stw E r d fr (GK ex h sz z n<|YC sz (List.replicate n z)<|evq E fr ps):=
 X9 rfl (by
  simp only[Z8,evq,GK];cases YC sz (List.replicate n z) (ps.map λp=>(p.1,ev E fr p.2))with
  |none=>rfl
  |some es=>
   simp only[cond_false];cases fits sz z
   .rfl
   .simp only[cond_true,ZM,ZH,J1])
def rowAt(h:Hp)(b g:Nat):Option (Nat×List AV):=match h[b]? with|some (.row sz es)=>bif es.length==g then some (sz,es)else none|_=>none
def rowAt_zero(sz:Nat)(es:List AV)(h:Hp)(g:Nat):rowAt (.row sz es::h) 0 g=bif es.length==g then some (sz,es)else none:=rfl
def Au(x:AObj)(h:Hp)(b g:Nat):rowAt (x::h) (b+1) g=rowAt h b g:=rfl
def Av(h:Hp)(sz:Nat)(es:List AV)(g:Nat):rowAt (h++[.row sz es]) h.length g=bif es.length==g then some (sz,es)else none:=by simp[rowAt]
def ldE(n:Option Nat)(i off:Nat):Option (Nat×List AV)->Option AV
 |some (_,es)=>thn es[i]? λe=>takeC n<|e.cells.drop off
 |none=>none
def ldQ(n:Option Nat)(off:Nat):Option AV->Option AV
 |some e=>takeC n<|e.cells.drop off
 |none=>none
def Aw(n:Option Nat)(off:Nat)(e:AV):ldQ n off (some e)=takeC n (e.cells.drop off):=rfl
def Ax(n:Option Nat)(i off sz:Nat)(es:List AV):ldE n i off (some (sz,es))=ldQ n off es[i]?:=by
 simp only[ldE,ldQ];cases es[i]?<;>rfl
def ldV(h:Hp)(n:Option Nat):AV->Option AV
 | .iptr _ cs=>takeC n cs
 | .ptr b i off g=>ldE n i off<|rowAt h b g
 |_=>none
def Ay(h:Hp)(n:Option Nat)(bw:Bool)(cs:List AV):ldV h n (.iptr bw cs)=takeC n cs:=rfl
def Az(h:Hp)(n:Option Nat)(b i off g:Nat):ldV h n (.ptr b i off g)=ldE n i off (rowAt h b g):=rfl
def AA{d:Option Nat}{n:Option Nat}{x:Arg}{r:List AOper}{fr:Fr}{h:Hp}:Z9 E (⟨d,.load n x,none⟩::r) fr h=stp E r d fr h (ldV h n<|ev E fr x):=
 QB (rs:=λ_=>match ev E fr x with| .ptr b _ _ _=>[b]|_=>[]) rfl (by
  simp only[Z8];generalize ev E fr x=v;cases v<;>first|rfl|skip
  case ptr b i off g=>
   simp only[ldV,rowAt];cases h[b]? with
   |none=>rfl
   |some o=>
    cases o<;>first|rfl|skip
    case row sz es=>
     dsimp only;cases(es.length==g)
     .rfl
     .simp only[cond_true,ldE];cases es[i]?<;>rfl)
def ckV(h:Hp):AV->Option AV
 | .iptr bw cs=>some<|.iptr bw cs
 | .ptr b i off g=>match rowAt h b g with|some _=>some (.ptr b i off g)|none=>none
 | .clo (.func f) a c=>some<|.clo (.func f) a c
 |_=>none
def AB(h:Hp)(bw:Bool)(cs:List AV):ckV h (.iptr bw cs)=some (.iptr bw cs):=rfl
def AC(h:Hp)(f:Nat)(a c:List AV):ckV h (.clo (.func f) a c)=some (.clo (.func f) a c):=rfl
def ckP(b i off g:Nat):Option (Nat×List AV)->Option AV
 |some _=>some<|.ptr b i off g
 |none=>none
def AD(b i off g:Nat)(p:Nat×List AV):ckP b i off g (some p)=some (.ptr b i off g):=rfl
def AE(h:Hp)(b i off g:Nat):ckV h (.ptr b i off g)=ckP b i off g (rowAt h b g):=by
 simp only[ckV,ckP]
def inV(neg:Bool)(h:Hp):AV->Option AV
 | .nilp=>some<|.bool !neg
 | .iptr _ _=>some<|.bool neg
 | .ptr b _ _ g=>match rowAt h b g with
  |some _=>some<|.bool neg
  |none=>none
 |_=>none
def inR(neg:Bool):Option (Nat×List AV)->Option AV
 |some _=>some<|.bool neg
 |none=>none
def ZGE(neg:Bool)(p:Nat×List AV):inR neg (some p)=some (.bool neg):=rfl
def ZGF(neg:Bool)(h:Hp):inV neg h .nilp=some (.bool !neg):=rfl
def ZGG(neg:Bool)(h:Hp)(bw:Bool)(cs:List AV):inV neg h (.iptr bw cs)=some (.bool neg):=rfl
def ZGH(neg:Bool)(h:Hp)(b i off g:Nat):inV neg h (.ptr b i off g)=inR neg (rowAt h b g):=by
 simp only[inV,inR]
def ZGI{d:Option Nat}{neg:Bool}{x:Arg}{r:List AOper}{fr:Fr}{h:Hp}:Z9 E (⟨d,.isn neg x,none⟩::r) fr h=stp E r d fr h (inV neg h<|ev E fr x):=
 QB (rs:=λ_=>match ev E fr x with| .ptr b _ _ _=>[b]|_=>[]) rfl (by
  simp only[Z8];generalize ev E fr x=v;cases v with
  |ptr b i off g=>
   simp only[inV,rowAt];cases h[b]? with
   |none=>rfl
   |some o=>
    cases o with
    |row sz es=>dsimp only;cases(es.length==g)<;>rfl
    |_=>rfl
  |_=>rfl)
attribute [go_sem] ZGE ZGF ZGG ZGH ZGI
def AF{d:Option Nat}{x:Arg}{r:List AOper}{fr:Fr}{h:Hp}:Z9 E (⟨d,.nilck x,none⟩::r) fr h=stp E r d fr h (ckV h<|ev E fr x):=
 QB (rs:=λ_=>match ev E fr x with| .ptr b _ _ _=>[b]|_=>[]) rfl (by
  simp only[Z8];generalize ev E fr x=v;cases v<;>first|rfl|(rename_i fn _ _;cases fn<;>rfl)|skip
  case ptr b i off g=>
   simp only[ckV,rowAt];cases h[b]? with
   |none=>rfl
   |some o=>
    cases o<;>first|rfl|skip
    case row sz es=>dsimp only;cases(es.length==g)<;>rfl)
def faV(h:Hp)(k:Nat):AV->Option AV
 | .iptr bw cs=>some<|.iptr bw<|cs.drop k
 | .ptr b i off g=>ckP b i (off+k) g<|rowAt h b g
 |_=>none
def AG(h:Hp)(k:Nat)(bw:Bool)(cs:List AV):faV h k (.iptr bw cs)=some (.iptr bw<|cs.drop k):=rfl
def AH(h:Hp)(k b i off g:Nat):faV h k (.ptr b i off g)=ckP b i (off+k) g (rowAt h b g):=rfl
def AI{d:Option Nat}{k:Nat}{x:Arg}{r:List AOper}{fr:Fr}{h:Hp}:Z9 E (⟨d,.fadr k x,none⟩::r) fr h=stp E r d fr h (faV h k<|ev E fr x):=
 QB (rs:=λ_=>match ev E fr x with| .ptr b _ _ _=>[b]|_=>[]) rfl (by
  simp only[Z8];generalize ev E fr x=v;cases v<;>first|rfl|skip
  case ptr b i off g=>
   simp only[faV,rowAt,ckP];cases h[b]? with
   |none=>rfl
   |some o=>
    cases o<;>first|rfl|skip
    case row sz es=>dsimp only;cases(es.length==g)<;>rfl)
def ixG(es:List AV)(n:Int):Option AV:=if 0<=n then es[n.toNat]? else none
def LP(es:List AV)(n:Nat):ixG es (n:Int)=es[n]?:=by simp[ixG]
def RK(pre:List AV)(x:AV)(post:List AV):ixG (pre++x::post) (pre.length:Int)=some x:=by simp[ixG]
def iaE(bw:Bool)(sz sz':Nat):Option AV->Option AV
 |some e=>bif sz'==sz then some (.iptr bw e.cells)else none
 |none=>none
def AJ(bw:Bool)(sz:Nat)(e:AV):iaE bw sz sz (some e)=some (.iptr bw e.cells):=by simp[iaE]
def iaP(b g off sz:Nat)(n:Int)(len:Nat):Option (Nat×List AV)->Option AV
 |some (sz',_)=>if 0<=n/\n<(len:Int)then(bif sz'==sz then some (.ptr b (off+n.toNat) 0 g)else none)else none
 |none=>none
def VT(b g off sz:Nat)(n:Int)(len:Nat)(es:List AV)(hn:0<=n/\n<(len:Int)):iaP b g off sz n len (some (sz,es))=some (.ptr b (off+n.toNat) 0 g):=by simp[iaP,hn]
def iaV(h:Hp)(sz:Nat):AV->AV->Option AV
 | .isl bw _ sz' es,.int _ n=>iaE bw sz sz'<|ixG es n
 | .sl b g off len _,.int _ n=>iaP b g off sz n len<|rowAt h b g
 |_,_=>none
def AK(h:Hp)(sz:Nat)(bw ex:Bool)(sz':Nat)(es:List AV)(k:IntKind)(n:Int):iaV h sz (.isl bw ex sz' es) (.int k n)=iaE bw sz sz' (ixG es n):=rfl
def AL(h:Hp)(sz b g off len:Nat)(ex:Bool)(k:IntKind)(n:Int):iaV h sz (.sl b g off len ex) (.int k n)=iaP b g off sz n len (rowAt h b g):=rfl
def AN{d:Option Nat}{sz:Nat}{x i:Arg}{r:List AOper}{fr:Fr}{h:Hp}:Z9 E (⟨d,.iadr sz x i,none⟩::r) fr h=stp E r d fr h (iaV h sz (ev E fr x)<|ev E fr i):=
 QB (rs:=λ_=>match ev E fr x with| .sl b _ _ _ _=>[b]|_=>[]) rfl (by
  simp only[Z8];generalize ev E fr x=v;generalize ev E fr i=u;cases v<;>cases u<;>first|rfl|skip
  case isl.int bw ex sz' es k n=>
   simp only[iaV,ixG,iaE];by_cases hn:0<=n
   .rw[if_pos hn,if_pos hn];cases es[n.toNat]? with
    |none=>rfl
    |some e=>simp only;cases(sz'==sz)<;>rfl
   .rw[if_neg hn,if_neg hn];rfl
  case sl.int b g off len ex k n=>
   simp only[iaV,rowAt];by_cases hn:0<=n/\n<(len:Int)
   .rw[if_pos hn];cases h[b]? with
    |none=>rfl
    |some o=>
     cases o<;>first|rfl|skip
     case row sz' es=>
      simp only;cases(es.length==g)<;>cases hs:(sz'==sz)<;>simp[iaP,hn,hs]
   .rw[if_neg hn];cases h[b]? with
    |none=>rfl
    |some o=>
     cases o<;>first|rfl|skip
     case row sz' es=>
      simp only;cases(es.length==g)<;>simp[iaP,hn])
def aaV(h:Hp)(sz len:Nat):AV->AV->Option AV
 | .iptr bw cs,.int _ n=>if 0<=n/\n<(len:Int)then some (.iptr bw<|cs.drop<|n.toNat*sz)else none
 | .ptr b j off g,.int _ n=>if 0<=n/\n<(len:Int)then ckP b j (off+n.toNat*sz) g (rowAt h b g)else none
 |_,_=>none
def AO(h:Hp)(sz len:Nat)(bw:Bool)(cs:List AV)(k:IntKind)(n:Int):aaV h sz len (.iptr bw cs) (.int k n)=if 0<=n/\n<(len:Int)then some (.iptr bw<|cs.drop<|n.toNat*sz)else none:=rfl
def AP(h:Hp)(sz len b j off g:Nat)(k:IntKind)(n:Int):aaV h sz len (.ptr b j off g) (.int k n)=if 0<=n/\n<(len:Int)then ckP b j (off+n.toNat*sz) g (rowAt h b g)else none:=rfl
def AQ{d:Option Nat}{sz len:Nat}{x i:Arg}{r:List AOper}{fr:Fr}{h:Hp}:Z9 E (⟨d,.aadr sz len x i,none⟩::r) fr h=stp E r d fr h (aaV h sz len (ev E fr x)<|ev E fr i):=
 QB (rs:=λ_=>match ev E fr x with| .ptr b _ _ _=>[b]|_=>[]) rfl (by
  simp only[Z8];generalize ev E fr x=v;generalize ev E fr i=u;cases v<;>cases u<;>first|rfl|skip
  case iptr.int bw cs k n=>
   simp only[aaV];split<;>rfl
  case ptr.int b j off g k n=>
   simp only[aaV,rowAt,ckP];cases h[b]? with
   |none=>simp
   |some o=>
    cases o<;>first|(simp;done)|skip
    case row sz' es=>
     simp only;cases(es.length==g)<;>by_cases hn:0<=n/\n<(len:Int)<;>simp[hn])
def aiV(n:Option Nat)(sz len:Nat):AV->AV->Option AV
 | .agg cs,.int _ k=>if 0<=k/\k<(len:Int)then takeC n (cs.drop<|k.toNat*sz)else none
 |_,_=>none
def LQ(n:Option Nat)(sz len:Nat)(cs:List AV)(j:IntKind)(k:Int):aiV n sz len (.agg cs) (.int j k)=if 0<=k/\k<(len:Int)then takeC n (cs.drop<|k.toNat*sz)else none:=rfl
def AR{d:Option Nat}{n:Option Nat}{sz len:Nat}{x i:Arg}{r:List AOper}{fr:Fr}{h:Hp}:Z9 E (⟨d,.aidx n sz len x i,none⟩::r) fr h=stp E r d fr h (aiV n sz len (ev E fr x)<|ev E fr i):=
 QB (rs:=λ_=>[]) rfl (by
  simp only[Z8];generalize ev E fr x=v;generalize ev E fr i=u;cases v<;>cases u<;>first|rfl|skip
  simp only[aiV];split<;>rfl)
def siV:AV->AV->Option AV
 | .str s,.int _ n=>if 0<=n then(s.data[n.toNat]?).map λb=>.int .u8 b.toNat else none
 |_,_=>none
def AS(s:ByteArray)(k:IntKind)(n:Int):siV (.str s) (.int k n)=if 0<=n then(s.data[n.toNat]?).map λb=>.int .u8 b.toNat else none:=rfl
def AT{d:Option Nat}{x i:Arg}{r:List AOper}{fr:Fr}{h:Hp}:Z9 E (⟨d,.sidx x i,none⟩::r) fr h=stp E r d fr h (siV (ev E fr x)<|ev E fr i):=
 QB (rs:=λ_=>[]) rfl (by
  simp only[Z8];generalize ev E fr x=v;generalize ev E fr i=u;cases v<;>cases u<;>first|rfl|skip
  case str.int s k n=>
   simp only[siV,Zl];split
   .cases s.data[n.toNat]?<;>rfl
   .rfl)
def lnP(len:Nat):Option (Nat×List AV)->Option AV
 |some _=>some<|.int .i64 len
 |none=>none
def AU(len:Nat)(p:Nat×List AV):lnP len (some p)=some (.int .i64 len):=rfl
def lnM(h:Hp)(b:Nat):Option AV:=match h[b]? with|some (.map ks _)=>some (.int .i64 ks.length)|_=>none
def lnV(h:Hp):Nat->AV->Option AV
 |0,.str s=>some<|.int .i64 s.size
 |1,.nilsl=>some<|.int .i64 0
 |1,.isl _ _ _ es=>some<|.int .i64 es.length
 |1,.sl b g _ len _=>lnP len<|rowAt h b g
 |2,.nilmap=>some<|.int .i64 0
 |2,.imap _ ks _=>some<|.int .i64 ks.length
 |2,.mp b=>lnM h b
 |_,_=>none
def AW(h:Hp)(s:ByteArray):lnV h 0 (.str s)=some (.int .i64 s.size):=rfl
def AX(h:Hp)(bw ex:Bool)(sz:Nat)(es:List AV):lnV h 1 (.isl bw ex sz es)=some (.int .i64 es.length):=rfl
def AY(h:Hp)(b g off len:Nat)(ex:Bool):lnV h 1 (.sl b g off len ex)=lnP len (rowAt h b g):=rfl
def AZ(h:Hp)(b:Nat):lnV h 2 (.mp b)=lnM h b:=rfl
def E0(h:Hp)(bw:Bool)(ks vs:List AV):lnV h 2 (.imap bw ks vs)=some (.int .i64 ks.length):=rfl
def E1{d:Option Nat}{k:Nat}{x:Arg}{r:List AOper}{fr:Fr}{h:Hp}:Z9 E (⟨d,.len k x,none⟩::r) fr h=stp E r d fr h (lnV h k<|ev E fr x):=
 QB (rs:=λ_=>match ev E fr x with| .sl b _ _ _ _=>[b]| .mp b=>[b]|_=>[]) rfl (by
  simp only[Z8];generalize ev E fr x=v;rcases k with _|_|_|k<;>cases v<;>first|rfl|skip
  case succ.zero.sl b g off len ex=>
   simp only[VC,cond_true,X1,lnV,rowAt,lnP];cases h[b]? with
   |none=>rfl
   |some o=>
    cases o<;>first|rfl|skip
    case row sz es=>dsimp only;cases(es.length==g)<;>rfl
  case succ.succ.zero.mp b=>
   simp only[VC,cond_true,X1,lnV,lnM];cases h[b]? with
   |none=>rfl
   |some o=>cases o<;>rfl)
def GL(h:Hp)(sz:Nat)(v:AV):Option (AV×Hp):=bif fits sz v then some (.ptr h.length 0 0 1,h++[.row sz [v]])else none
def E2(h:Hp)(sz:Nat)(v:AV)(hf:fits sz v=true):GL h sz v=some (.ptr h.length 0 0 1,h++[.row sz [v]]):=by simp[GL,hf]
def E3{d:Option Nat}{sz:Nat}{x:Arg}{r:List AOper}{fr:Fr}{h:Hp}:Z9 E (⟨d,.box sz x,none⟩::r) fr h=stw E r d fr (GL h sz<|ev E fr x):=
 X9 rfl (by
  simp only[Z8,GL];cases fits sz (ev E fr x)
  .rfl
  .simp only[cond_true,ZM,ZH,J1])
def Va(h:Hp)(sz:Nat)(v:AV):Option (AV×Hp):=bif fits sz v then(bif Z4 v.cells then some (.iptr false v.cells,h)else bif Zi v.cells then some (.iptr true v.cells,h)else some (.ptr h.length 0 0 1,h++[.row sz [v]]))else none
def E4(h:Hp)(sz:Nat)(v:AV)(hf:fits sz v=true)(hc:Z4 v.cells=true):Va h sz v=some (.iptr false v.cells,h):=by simp[Va,hf,hc]
def E5(h:Hp)(sz:Nat)(v:AV)(hf:fits sz v=true)(hc:Z4 v.cells=false)(hn:Zi v.cells=true):Va h sz v=some (.iptr true v.cells,h):=by simp[Va,hf,hc,hn]
def E6(h:Hp)(sz:Nat)(v:AV)(hf:fits sz v=true)(hc:Z4 v.cells=false)(hn:Zi v.cells=false):Va h sz v=some (.ptr h.length 0 0 1,h++[.row sz [v]]):=by simp[Va,hf,hc,hn]
def E7{d:Option Nat}{sz:Nat}{x:Arg}{r:List AOper}{fr:Fr}{h:Hp}:Z9 E (⟨d,.ibox sz x,none⟩::r) fr h=stw E r d fr (Va h sz<|ev E fr x):=
 X9 rfl (by
  simp only[Z8,Va];cases fits sz (ev E fr x)
  .rfl
  .simp only[cond_true];cases Z4 (ev E fr x).cells
   .simp only[cond_false];cases Zi (ev E fr x).cells
    .simp only[cond_false,ZM,ZH,J1]
    .rfl
   .rfl)
def stE(off n:Nat)(v:AV):AV->Option AV
 | .agg old=>bif Nat.ble (off+n) old.length then some (.agg<|old.take off++v.cells++old.drop (off+n))else none
 |_=>match v.cells with|[c]=>bif off==0 then some c else none|_=>none
def E8(off n:Nat)(v:AV)(old:List AV):stE off n v (.agg old)=bif Nat.ble (off+n) old.length then some (.agg<|old.take off++v.cells++old.drop (off+n))else none:=rfl
def stS(h:Hp)(b sz:Nat)(es:List AV)(i:Nat):Option AV->Option (AV×Hp)
 |some e=>some (.bot,setH h b<|.row sz<|es.set i e)
 |none=>none
def E9(h:Hp)(b sz:Nat)(es:List AV)(i:Nat)(e:AV):stS h b sz es i (some e)=some (.bot,setH h b<|.row sz<|es.set i e):=rfl
def stO(off n:Nat)(v:AV):Option AV->Option AV
 |some e=>stE off n v e
 |none=>none
def Ea(off n:Nat)(v e:AV):stO off n v (some e)=stE off n v e:=rfl
def stP(h:Hp)(b i off n:Nat)(v:AV):Option (Nat×List AV)->Option (AV×Hp)
 |some (sz,es)=>bif fits n v then stS h b sz es i (stO off n v es[i]?)else none
 |none=>none
def Eb(h:Hp)(b i off n:Nat)(v:AV)(sz:Nat)(es:List AV)(hf:fits n v=true):stP h b i off n v (some (sz,es))=stS h b sz es i (stO off n v es[i]?):=by simp[stP,hf]
def stV(h:Hp)(n:Nat)(v:AV):AV->Option (AV×Hp)
 | .ptr b i off g=>stP h b i off n v<|rowAt h b g
 |_=>none
def Ec(h:Hp)(n:Nat)(v:AV)(b i off g:Nat):stV h n v (.ptr b i off g)=stP h b i off n v (rowAt h b g):=rfl
def LR{d:Option Nat}{n:Nat}{a x:Arg}{r:List AOper}{fr:Fr}{h:Hp}:Z9 E (⟨d,.store n a x,none⟩::r) fr h=stw E r d fr (stV h n (ev E fr x)<|ev E fr a):=
 X9 rfl (by
  simp only[Z8];generalize ev E fr a=u;generalize ev E fr x=v;cases u<;>first|rfl|skip
  case ptr b i off g=>
   simp only[stV,rowAt];cases h[b]? with
   |none=>rfl
   |some o=>
    cases o<;>first|rfl|skip
    case row sz es=>
     simp only;cases(es.length==g)
     .rfl
     .cases hf:fits n v
      .simp[stP,hf,thn]
      .simp only[ZX8,cond_true,stP,hf];cases es[i]? with
       |none=>rfl
       |some e=>
        rcases hc:v.cells with _|⟨c,_|⟨c2,cs⟩⟩<;>cases e<;>simp only[stO,stE,hc]<;>first
         |rfl
         |(generalize Nat.ble (off+n) _=q;cases q<;>rfl)
         |(generalize(off==0)=q;cases q<;>rfl))
def GM(x y:AObj)(h:Hp):setH (x::h) 0 y=y::h:=rfl
def GN(x y:AObj)(h:Hp)(b:Nat):setH (x::h) (b+1) y=x::setH h b y:=by
 unfold setH;have e:Nat.blt (b+1) (x::h).length=Nat.blt b h.length:=by
  rw[ZXq];simp[ZXT]
 rw[e];cases Nat.blt b h.length<;>rfl
def slF(h:Hp)(sz:Nat)(x:AV):Option (Nat×Nat×Option Nat)->Option AV
 |some (l,hh,m)=>
  match x with
  | .nilsl=>some .nilsl
  | .isl bw ex sz' es=>bif sz'==sz then some (.isl bw (match m with|none=>ex&&hh==es.length|some m=>m==hh) sz<|(es.drop l).take (hh-l))else none
  | .sl b g off len ex=>(match rowAt h b g with|some (sz',_)=>bif sz'==sz then some (.sl b g (off+l) (hh-l) (match m with|none=>ex&&hh==len|some m=>m==hh))else none|none=>none)
  |_=>none
 |none=>none
def Ed(h:Hp)(sz:Nat)(bw ex:Bool)(es:List AV)(l hh:Nat)(m:Option Nat):slF h sz (.isl bw ex sz es) (some (l,hh,m))=some (.isl bw (match m with|none=>ex&&hh==es.length|some m=>m==hh) sz<|(es.drop l).take (hh-l)):=by simp[slF]
def GO:AV->Option Nat
 | .nilsl=>some 0
 | .isl _ _ _ es=>some es.length
 | .sl _ _ _ len _=>some len
 |_=>none
def evo(E:Env)(fr:Fr)(x:Option Arg):Option AV:=x.map<|ev E fr
def Ee(fr:Fr):evo E fr none=none:=rfl
def Ef(fr:Fr)(x:Arg):evo E fr (some x)=some (ev E fr x):=rfl
def slV(h:Hp)(sz:Nat)(x:AV)(lo hi mx:Option AV):Option AV:=thn (GO x) λn=>slF h sz x<|bounds lo hi mx n
def Eg(h:Hp)(sz:Nat)(bw ex:Bool)(sz':Nat)(es:List AV)(lo hi mx:Option AV):slV h sz (.isl bw ex sz' es) lo hi mx=slF h sz (.isl bw ex sz' es) (bounds lo hi mx es.length):=rfl
def Eh(h:Hp)(sz b g off len:Nat)(ex:Bool)(lo hi mx:Option AV):slV h sz (.sl b g off len ex) lo hi mx=slF h sz (.sl b g off len ex) (bounds lo hi mx len):=rfl
def Ei{d:Option Nat}{sz:Nat}{x:Arg}{lo hi mx:Option Arg}{r:List AOper}{fr:Fr}{h:Hp}:Z9 E (⟨d,.slc sz x lo hi mx,none⟩::r) fr h=stp E r d fr h (slV h sz (ev E fr x) (evo E fr lo) (evo E fr hi)<|evo E fr mx):=
 QB (rs:=λ_=>match ev E fr x with| .sl b _ _ _ _=>[b]|_=>[]) rfl (by
  simp only[Z8,evo];generalize ev E fr x=v;generalize lo.map (ev E fr)=lo';generalize hi.map (ev E fr)=hi';generalize mx.map (ev E fr)=mx';cases v<;>first|rfl|skip
  case nilsl=>
   simp only[slV,GO,ZM];cases bounds lo' hi' mx' 0<;>rfl
  case isl bw ex sz' es=>
   simp only[slV,GO,ZM];cases bounds lo' hi' mx' es.length with
   |none=>rfl
   |some p=>
    obtain⟨l,hh,m⟩:=p;simp only[slF];cases(sz'==sz)<;>rfl
  case sl b g off len ex=>
   simp only[slV,GO,ZM];cases bounds lo' hi' mx' len with
   |none=>rfl
   |some p=>
    obtain⟨l,hh,m⟩:=p;simp only[slF,rowAt];cases h[b]? with
    |none=>rfl
    |some o=>
     cases o<;>first|rfl|skip
     case row sz' es=>
      simp only;cases(es.length==g)<;>cases hs:(sz'==sz)<;>simp[hs]<;>cases m<;>rfl)
def ssF(s:ByteArray):Option (Nat×Nat×Option Nat)->Option AV
 |some (l,hh,_)=>some<|.str<|s.extract l hh
 |none=>none
def Ej(s:ByteArray)(l hh:Nat)(m:Option Nat):ssF s (some (l,hh,m))=some (.str<|s.extract l hh):=rfl
def ssV(x:AV)(lo hi:Option AV):Option AV:=match x with| .str s=>ssF s (bounds lo hi none s.size)|_=>none
def Ek(s:ByteArray)(lo hi:Option AV):ssV (.str s) lo hi=ssF s (bounds lo hi none s.size):=rfl
def El{d:Option Nat}{x:Arg}{lo hi:Option Arg}{r:List AOper}{fr:Fr}{h:Hp}:Z9 E (⟨d,.ssl x lo hi,none⟩::r) fr h=stp E r d fr h (ssV (ev E fr x) (evo E fr lo)<|evo E fr hi):=
 QB (rs:=λ_=>[]) rfl (by
  simp only[Z8,evo];generalize ev E fr x=v;generalize lo.map (ev E fr)=lo';generalize hi.map (ev E fr)=hi';cases v<;>first|rfl|skip
  case str s=>
   simp only[ssV];cases bounds lo' hi' none s.size<;>rfl)
def appW(h:Hp)(fz:Bool)(sz bytes:Nat)(s x:AV):Option (AV×Hp):=thn (Qt h h.length fz sz bytes s x) λr=>some (r.1,ZH h r.2.2)
def Em{d:Option Nat}{fz:Bool}{sz bytes:Nat}{s x:Arg}{r:List AOper}{fr:Fr}{h:Hp}:Z9 E (⟨d,.app fz sz bytes s x,none⟩::r) fr h=stw E r d fr (appW h fz sz bytes (ev E fr s)<|ev E fr x):=
 X9 rfl rfl
def Zwk(h:Hp)(sz bytes:Nat)(s x:AV):Option Zt:=match Qt h h.length false sz bytes s x with|some r=>ZvE h r|none=>none
def ZwE(h:Hp)(sz bytes:Nat)(s x:AV):Option (AV×Hp):=thn (Zwk h sz bytes s x) λr=>some (r.1,ZH h r.2.2)
def Zzq{d:Option Nat}{sz bytes:Nat}{s x:Arg}{r:List AOper}{fr:Fr}{h:Hp}:Z9 E (⟨d,.apr sz bytes s x,none⟩::r) fr h=stw E r d fr (ZwE h sz bytes (ev E fr s)<|ev E fr x):=
 X9 rfl rfl
attribute [go_sem] Zzq
def ZGJ{d:Option Nat}{sz bytes:Nat}{s x:Arg}{r:List AOper}{fr:Fr}{h:Hp}:Z9 E (⟨d,.apa sz bytes s x,none⟩::r) fr h=stw E r d fr (ZE9 h sz bytes (ev E fr s)<|ev E fr x):=by
 rw[J3,ZGD];unfold stw;cases ZE9 h sz bytes (ev E fr s) (ev E fr x)<;>rfl
attribute [go_sem] ZGJ
def W5(h:Hp)(ag:Bool)(kk:List Nat)(ok:Bool)(z:AV)(m k:AV):Option AV:=
 match m with
 | .nilmap=>(QW ag kk ok z [] [] [] k).map (·.1)
 | .imap _ ks vs=>(QW ag kk ok z [] ks vs k).map (·.1)
 | .mp b=>(match h[b]? with|some (.map ks vs)=>(QW ag kk ok z [b] ks vs k).map (·.1)|_=>none)
 |_=>none
def LS{ag:Bool}{kk:List Nat}{ok:Bool}{z:AV}{rs:List Nat}{ks vs:List AV}{k:AV}:QW ag kk ok z rs ks vs k=((QW ag kk ok z rs ks vs k).map (·.1)).map λx=>(x,rs,none):=by
 unfold QW;cases Zz ag kk k k with
 |none=>rfl
 |some b=>
  cases ZW ag kk k ks 0 with
  |none=>rfl
  |some o=>
   cases o with
   |none=>rfl
   |some i=>simp only;cases vs[i]?<;>rfl
def En{d:Option Nat}{ag:Bool}{kk:List Nat}{ok:Bool}{z:AV}{m k:Arg}{r:List AOper}{fr:Fr}{h:Hp}:Z9 E (⟨d,.lkp ag kk ok z m k,none⟩::r) fr h=stp E r d fr h (W5 h ag kk ok z (ev E fr m)<|ev E fr k):=
 QB (rs:=λ_=>match ev E fr m with| .mp b=>[b]|_=>[]) rfl (by
  simp only[Z8];generalize ev E fr m=v;generalize ev E fr k=u;cases v<;>first|rfl|exact LS|skip
  case mp b=>
   simp only[W5];cases h[b]? with
   |none=>rfl
   |some o=>cases o<;>first|rfl|exact LS)
def YK(h:Hp)(ag:Bool)(kk:List Nat)(m k v:AV):Option (AV×Hp):=
 match m with
 | .mp b=>(match h[b]? with|some (.map ks vs)=>thn (Yo ag kk b ks vs k v) λr=>some (r.1,ZH h r.2.2)|_=>none)
 |_=>none
def Eo{d:Option Nat}{ag:Bool}{kk:List Nat}{m k v:Arg}{r:List AOper}{fr:Fr}{h:Hp}:Z9 E (⟨d,.mupd ag kk m k v,none⟩::r) fr h=stw E r d fr (YK h ag kk (ev E fr m) (ev E fr k)<|ev E fr v):=
 X9 rfl (by
  simp only[Z8,YK];generalize ev E fr m=x;cases x<;>first|rfl|skip
  case mp b=>
   simp only;cases h[b]? with
   |none=>rfl
   |some o=>cases o<;>rfl)
def Ep{d:Option Nat}{ag:Bool}{kk:List Nat}{m k v:Arg}{r:List AOper}{fr:Fr}{h:Hp}:Z9 E (⟨d,.ins ag kk m k v,none⟩::r) fr h=stw E r d fr (YK h ag kk (ev E fr m) (ev E fr k)<|ev E fr v):=
 X9 rfl (by
  simp only[Z8,YK];generalize ev E fr m=x;cases x<;>first|rfl|skip
  case mp b=>
   simp only;cases h[b]? with
   |none=>rfl
   |some o=>cases o<;>rfl)
def Er{d:Option Nat}{x:Arg}{r:List AOper}{fr:Fr}{h:Hp}:Z9 E (⟨d,.rng x,none⟩::r) fr h=stw E r d fr (match ev E fr x with| .str s=>some (.it h.length,h++[.iter s 0])|_=>none):=
 X9 rfl (by
  simp only[Z8];generalize ev E fr x=v;cases v<;>first|rfl|simp only[ZM,ZH,J1])
def U8(h:Hp)(v:AV):Option (AV×Hp):=
 match v with
 | .it b=>
  (match h[b]? with
   |some (.iter s pos)=>bif Nat.blt pos s.size then some (.tup [.bool true,.int .i64 pos,.int .i32 (Utf8.decode s pos).1],setH h b<|.iter s<|pos+(Utf8.decode s pos).2)else some (.tup [.bool false],h)
   |_=>none)
 |_=>none
def Es{d:Option Nat}{x:Arg}{r:List AOper}{fr:Fr}{h:Hp}:Z9 E (⟨d,.nxt x,none⟩::r) fr h=stw E r d fr (U8 h<|ev E fr x):=
 X9 rfl (by
  simp only[Z8,U8];generalize ev E fr x=v;cases v<;>first|rfl|skip
  case it b=>
   simp only;cases h[b]? with
   |none=>rfl
   |some o=>
    cases o<;>first|rfl|skip
    case iter s pos=>simp only;cases Nat.blt pos s.size<;>rfl)
noncomputable def pcl(E:Env)(f:Nat)(as:Option<|List AV):Option AV:=thn as λas=>pfn E f as
def Et(f:Nat)(as:List AV):pcl E f (some as)=pfn E f as:=rfl
def Eu(h:Hp)(as:List AV)(hc:Z4 as=true):Ql h as=some as:=by simp[Ql,hc]
def ZDW(h:Hp)(as:List AV)(hc:Z4 as=false):Ql h as=ZC true h 40 as:=by simp[Ql,hc]
def Ew{d:Option Nat}{f:Nat}{args:List Arg}{r:List AOper}{fr:Fr}{h:Hp}:Z9 E (⟨d,.call true f args,none⟩::r) fr h=stp E r d fr h (pcl E f<|Ql h<|evs E fr args):=by
 rw[J3,RE,GD];unfold evs pcl stp;cases Ql h (args.map<|ev E fr)with
 |none=>rfl
 |some as=>
  simp only[ZM];cases pfn E f as<;>rfl
def Ex{d:Option Nat}{f:Nat}{args:List Arg}{r:List AOper}{fr:Fr}{h:Hp}:Z9 E (⟨d,.call false f args,none⟩::r) fr h=stw E r d fr (fnV E f (evs E fr args) h):=by
 rw[J3,RE,LE];unfold evs stw;cases fnV E f (args.map<|ev E fr) h<;>rfl
noncomputable def pcv(E:Env)(h:Hp)(args:List AV)(f:AV):Option AV:=
 match f with
 | .clo (.func g) first cap=>pcl E g<|Ql h<|first++args++cap
 |_=>none
def LT(h:Hp)(args:List AV)(g:Nat)(first cap:List AV):pcv E h args (.clo (.func g) first cap)=pcl E g (Ql h<|first++args++cap):=rfl
def LU{p:Bool}{f:AV}{args:List AV}{h:Hp}(hf:∀g a c,f≠.clo (.func g) a c)(hy:∀b,f=.yld b->p=true):Xy E p f args h=none:=by
 unfold Xy;refine U3 λn=>?_
 cases n with
 |zero=>rfl
 |succ n=>
  cases f with
  |clo fn a c=>cases fn<;>first|exact absurd rfl (hf _ _ _)|rfl
  |yld b=>rw[hy b rfl];rfl
  |_=>rfl
def Ey{d:Option Nat}{x:Arg}{args:List Arg}{r:List AOper}{fr:Fr}{h:Hp}:Z9 E (⟨d,.callv true x args,none⟩::r) fr h=stp E r d fr h (pcv E h (evs E fr args)<|ev E fr x):=by
 rw[J3,RF];unfold evs;generalize ev E fr x=v;generalize args.map (ev E fr)=as;by_cases hv:∃g a c,v=.clo (.func g) a c
 .obtain⟨g,a,c,rfl⟩:=hv;rw[RD,GD,LT];unfold pcl stp;cases Ql h (a++as++c)with
  |none=>rfl
  |some bs=>
   simp only[ZM];cases pfn E g bs<;>rfl
 .rw[LU (λg a c e=>hv ⟨g,a,c,e⟩)<|λ_ _=>rfl]
  have:pcv E h as v=none:=by
   unfold pcv;split
   .next g a c=>exact absurd ⟨g,a,c,rfl⟩ hv
   .rfl
  rw[this];rfl
def Ez{d:Option Nat}{x:Arg}{args:List Arg}{r:List AOper}{fr:Fr}{h:Hp}:Z9 E (⟨d,.callv false x args,none⟩::r) fr h=stw E r d fr (Xy E false (ev E fr x) (evs E fr args) h):=by
 rw[J3,RF];unfold evs stw;cases Xy E false (ev E fr x) (args.map<|ev E fr) h<;>rfl
def RL{g:Nat}{first cap args:List AV}{h:Hp}:Xy E false (.clo (.func g) first cap) args h=fnV E g (first++args++cap) h:=by rw[RD,LE]
def frz(r:Option<|AV×Hp):Option AV:=thn r λr=>YE r.2 r.1
def EA(v:AV)(h:Hp):frz (some (v,h))=YE h v:=rfl
def EB(h:Hp)(v:AV)(hc:clean v=true):YE h v=some v:=by simp[YE,hc]
def EC(h:Hp)(v:AV)(hc:clean v=false):YE h v=freeze false h 40 v:=by simp[YE,hc]
def fnd(rs:List ResVar)(r:Option<|AExit×Fr×Hp):Option (AV×Hp):=fin rs r
def RM(h:Hp):Option AV->Option (AV×Hp)
 |some v=>some (v,h)
 |none=>none
def ED(h:Hp)(v:AV):RM h (some v)=some (v,h):=rfl
def EE(rs:List ResVar)(fr:Fr)(h:Hp):fnd rs (some (.normal,fr,h))=RM h (QO fr h rs):=by
 simp only[fnd,S1];cases QO fr h rs<;>rfl
def EF(rs:List ResVar)(fr:Fr)(h:Hp):fnd rs (some (.ret,fr,h))=RM h (QO fr h rs):=by
 simp only[fnd,S2];cases QO fr h rs<;>rfl
def EG(fr:Fr)(h:Hp)(t:Nat):QO fr h [.tmp t]=some (get fr t):=rfl
def EH(fr:Fr)(h:Hp):QO fr h []=some (.tup []):=rfl
def EI(fr:Fr)(h:Hp)(t u:Nat):QO fr h [.tmp t,.tmp u]=some (.tup [get fr t,get fr u]):=rfl
def EJ(fr:Fr)(h:Hp)(t u v:Nat):QO fr h [.tmp t,.tmp u,.tmp v]=some (.tup [get fr t,get fr u,get fr v]):=rfl
def Q6{f:Nat}{args:List AV}{h:Hp}{rs:List ResVar}{c:ACode}(hs:E.sum f=none)(hf:E.fn f=some ⟨rs,c⟩):fnV E f args h=fnd rs (Zb E c (QP 0 args) h):=by
 rw[TZ hs,LD hf];rfl
def Z5{f:Nat}{args:List AV}{rs:List ResVar}{c:ACode}(hs:E.sum f=none)(hf:E.fn f=some ⟨rs,c⟩):pfn E f args=frz (fnd rs<|Zb E c (QP 0 args) []):=by
 unfold pfn frz;rw[Q6 hs hf]
def Zw8(fr:Fr):Option (AV×Hp)->Option (AExit×Fr×Hp)
 |some p=>some (.normal,fr,p.2)
 |none=>none
def Zzr(fr:Fr)(v:AV)(h:Hp):Zw8 fr (some (v,h))=some (.normal,fr,h):=rfl
def ZxU(s d:Nat)(fr:Fr)(h:Hp):Option AV->Option (AExit×Fr×Hp)
 |some v=>Zw8 (put fr d v)<|stV (h++[.row s []]) 1 (.sl h.length 0 0 0 false) v
 |none=>none
def ZxV(s d:Nat)(fr:Fr)(h:Hp)(v:AV):ZxU s d fr h (some v)=Zw8 (put fr d v) (stV (h++[.row s []]) 1 (.sl h.length 0 0 0 false) v):=rfl
def Zzs{k:Nat}{x:Arg}{fr:Fr}{h:Hp}:Z8 E fr h h.length (.fadr k x)=(faV h k<|ev E fr x).map λu=>(u,(match ev E fr x with| .ptr b _ _ _=>[b]|_=>[]),none):=by
 simp only[Z8];generalize ev E fr x=v;cases v<;>first|rfl|skip
 case ptr b i off g=>
  simp only[faV,rowAt,ckP];cases h[b]? with
  |none=>rfl
  |some o=>
   cases o<;>first|rfl|skip
   case row sz es=>dsimp only;cases(es.length==g)<;>rfl
def Zzt(fr:Fr)(d:Nat)(v:AV):get (put fr d v) d=v:=by simp[put,get]
def Zzu{d:Nat}{fr:Fr}{h:Hp}{y:AV}{aid:Nat}:(match Z8 E fr h aid (.store 1 (.t d)<|.c y)with|some r=>some (AExit.normal,fr,ZH h r.2.2)|none=>none)=Zw8 fr (stV h 1 y<|get fr d):=by
 have e1:ev E fr (.t d)=get fr d:=rfl;have e2:ev E fr (.c y)=y:=rfl;simp only[Z8,e1,e2];generalize get fr d=u;cases u<;>first|rfl|skip
 case ptr b i off g=>
  simp only[stV,rowAt];cases h[b]? with
  |none=>rfl
  |some o=>
   cases o<;>first|rfl|skip
   case row sz es=>
    simp only;cases(es.length==g)
    .rfl
    .cases hf:fits 1 y
     .simp[stP,hf,Zw8]
     .simp only[ZX8,cond_true,stP,hf];cases es[i]? with
      |none=>rfl
      |some e=>
       rcases hc:y.cells with _|⟨c,_|⟨c2,cs⟩⟩<;>cases e<;>simp only[stO,stE,hc]<;>first
        |rfl
        |(generalize Nat.ble (off+1) _=q;cases q<;>rfl)
        |(generalize(off==0)=q;cases q<;>rfl)
def Zzv{s d off:Nat}{p:Arg}{fr:Fr}{h:Hp}:Zb E (.nils s d off p) fr h=ZxU s d fr h (faV h off<|ev E fr p):=by
 rw[Zzo];unfold ZvU;rw[Zzs];cases faV h off (ev E fr p)with
 |none=>rfl
 |some v=>
  rw[ZxV];have:=Zzu (E:=E) (d:=d) (fr:=put fr d v) (h:=h++[.row s []]) (y:=.sl h.length 0 0 0 false) (aid:=h.length+1);rw[Zzt]at this;exact this
attribute [go_sem] Zzv ZxV Zzr
attribute [go_sem] Su Sv GG RH Sw Sx Sy Sz SA SB SC SD SE SF SG SH SI SJ SK SM SN SO LH SP SQ
 Zzn Zzm Zvr Zw7 Zvo Se Sf Sg Sh Sl Sm S9 Sa Sb Sc Sd
 KZ SR LI SS LJ LK LL LM ST SU SV SW SX SY SZ A0 A1 A2 A3 A4 A5 A6 A7 A8 A9 Aa Ab Ac Ad Ae Af Ag
 Ah Ai Aj Ak Al Am Ao Ap Aq ZMd Ar rowAt_zero Au Av Ax Aw Ay Az AA AB AC AD AE AF AG AH AI
 LP RK AJ AK AL AN AO AP AQ LQ AR AS AT AU AW AX AY AZ E0 E1 E2 E3 E4 E5 E6 E7 E8 E9 Ea Eb Ec LR GM GN
 Ed Ee Ef Eg Eh Ei Ej Ek El Em En Eo Ep Er Es Et Eu ZDW Ew Ex LT Ey Ez RL EA EB EC ED EE EF EG EH EI EJ
 cond_true cond_false YZ JO UR Vy Zz ZE eq1
end Go.AM
namespace Go.AM
open Go
def YL(sz:Nat)(args:List AV)(h:Hp):Option (AV×Hp):=match args with
 |[x]=>match Q2 h x with
  |some es=>bif Qq h sz x&&(es.all (fits sz)&&(!es.isEmpty&&Nat.ble es.length 1000000))then some (.sl h.length es.length 0 es.length false,h++[.row sz es])else none
  |none=>none
 |_=>none
def Yc(p:UInt8->Bool):List UInt8->Int->Int
 |[],_=>-1
 |c::r,i=>bif p c then i else Yc p r<|i+1
def U9(args:List AV)(h:Hp):Option (AV×Hp):=match args with
 |[.str s,.int .u8 c]=>bif decide (0<=c)&&decide (c<256)then some (.int .i64<|Yc (λx=>(x.toNat:Int)==c) s.data.toList 0,h)else none
 |_=>none
def W6(b:UInt8):Bool:=decide (48<=b.toNat)&&decide (b.toNat<=57)
def J4(l:List UInt8)(n:Int):Int:=l.foldl (λn c=>10*n+((c.toNat:Int)-48)) n
def J5(args:List AV)(h:Hp):Option (AV×Hp):=match args with
 |[.str s]=>bif s.data.toList.all W6&&(!s.data.toList.isEmpty&&Nat.ble s.size 18)then some (.tup [.int .i64<|J4 s.data.toList 0,.nilif],h)else none
 |_=>none
def J6(args:List AV)(h:Hp):Option (AV×Hp):=match args with
 |[.str s,.str c]=>bif Nat.blt s.size 4294967281&&(Nat.beq c.size 2&&c.data.toList.all (λb=>Nat.blt b.toNat 128))then some (.int .i64 (Yc (λx=>c.data.toList.any (·==x)) s.data.toList 0),h)else none
 |_=>none
def Qd(l:List UInt8):AV:=.str ⟨l.toArray⟩
def WB:AV->Bool
 | .str _=>true
 |_=>false
def GP:AV->AV->Bool
 | .str a,.str b=>!WW b a
 | .int _ a,.int _ b=>decide (a<=b)
 |_,_=>true
def Vb(x:AV):List AV->List AV
 |[]=>[x]
 |y::r=>bif GP x y then x::y::r else y::Vb x r
def Yk:List AV->List AV
 |[]=>[]
 |x::r=>Vb x<|Yk r
def J7(args:List AV)(h:Hp):Option (AV×Hp):=match args with
 |[.sl b g off len _]=>match h[b]? with
  |some (.row sz es)=>bif sz==1&&(es.length==g&&(off==0&&(len==g&&(es.all WB&&Nat.ble es.length 1000000))))then some (.tup [],setH h b<|.row 1<|Yk es)else none
  |_=>none
 |_=>none
def sameKey:AV->AV->Bool
 | .str a,.str b=>Z3 a b
 | .int _ a,.int _ b=>a==b
 |_,_=>false
def Ys:List AV->List AV
 |[]=>[]
 |a::r=>match Ys r with
  |[]=>[a]
  |b::s=>bif sameKey a b then b::s else a::b::s
def J8(args:List AV)(h:Hp):Option (AV×Hp):=match args with
 |[.sl b g off len _]=>match h[b]? with
  |some (.row sz es)=>bif sz==1&&(es.length==g&&(off==0&&(len==g&&(es.all WB&&Nat.ble es.length 1000000))))then
   some (.sl b g 0 (Ys es).length false,setH h b<|.row 1<|Ys es++List.replicate (g-(Ys es).length) (Qd []))else none
  |_=>none
 |_=>none
def J9(args:List AV)(h:Hp):Option (AV×Hp):=match args with
 |[x]=>match Q2 h x with
  |some es=>bif Qq h 1 x&&(es.all (fits 1)&&Nat.ble es.length 1000000)then some (.sl h.length es.length 0 es.length false,h++[.row 1 es])else none
  |none=>none
 |_=>none
def Q4(sep:UInt8):List UInt8->List (List UInt8)
 |[]=>[[]]
 |c::r=>bif c==sep then []::Q4 sep r else match Q4 sep r with|w::ws=>(c::w)::ws|[]=>[[c]]
def Ja(args:List AV)(h:Hp):Option (AV×Hp):=match args with
 |[.str s,.str c]=>match c.data.toList with
  |[x]=>bif Nat.blt s.size 4294967281 then some (.sl h.length (Q4 x s.data.toList).length 0 (Q4 x s.data.toList).length false,h++[.row 1<|(Q4 x s.data.toList).map Qd])else none
  |_=>none
 |_=>none
end Go.AM
