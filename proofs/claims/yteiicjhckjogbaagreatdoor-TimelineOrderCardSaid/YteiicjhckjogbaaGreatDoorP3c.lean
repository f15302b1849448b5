/- What the functions of the program compute, part 3, for TimelineOrder. No condition. -/
import Derived.Test.YteiicjhckjogbaaGreatDoorP3b
set_option linter.unusedVariables false
set_option linter.defProp false
set_option linter.unusedSimpArgs false
set_option linter.unusedSectionVars false
namespace Go.AM
open Go
variable [REdz]
def plE(s:Sta)(m:Int):List Pt->Int
 |[]=>0
 |p::r=>bif !(ZoH s p).any (λx=>m==x)then 18 else bif (ZoH s p).any (λc=>c != m&&!ZoW s m c)then 19 else plE s m r
def Zp1(s:Sta)(e:Event)(a m:Int):Int:=
 bif e.Kind==1 then bif s.Regions.any (λx=>Z3 x.Id e.Id)then 0 else bif e.A==1&&a==0 then 18 else bif e.A==1 then 0 else plE s m<|ZoM e
 else plE s m<|ZoM e
def ZpQ{s:Sta}(h:ClS s):∀p∈s.Rulings,pfn rE 65 [ldI s,I p.a]=some (I<|Zoq s p.a)/\pfn rE 65 [ldI s,I p.b]=some (I<|Zoq s p.b):=by
 intro p hp;have hpa:=h.prop.pa;unfold WK at hpa;simp only[ZS3]at hpa;have:=Zpo<|ZSj.1 hpa.2.1 p hp;exact⟨h.mst this.1.1,h.mst this.2.1⟩
def Zqz(l:List Int)(hl:l.length<=1000000)(p:Int->Bool)(g:Nat)(cap:List AV)(hc:Z4 cap=true)(hp:∀x∈l,pfn rE g (I x::cap)=some (.bool<|p x)):pfn rE 112 [.isl false false 1<|l.map I,.clo (.func g) [] cap]=some (.bool<|l.any p):=by
 have h:=WF (E:=rE) (f:=194) (sz:=1) (n:=none) (enc:=I) (p:=p) (g:=g) (cap:=cap) rfl rfl hc l (by omega) (λx _=>⟨rfl,rfl⟩) hp false false
 rw[Z5 (f:=112) rfl rfl,<-Vg];unfold WG;simp only[go_sem,c112,h,hc]
def ZqA(s:Sta)(e:Event)(a m:Int)(x:Region):pfn rE 108 [x.enc,.iptr false [rqI s e a m]]=some (.bool<|Z3 x.Id e.Id):=by
 have hcl:=Zow s;have hbl:=Zot s;rw[Z5 (f:=108) rfl rfl];simp only[go_sem,c108,Region.enc,NL.enc]
def ZqB(s:Sta)(e:Event)(a m:Int)(h:RqS s e m)(c:Int):pfn rE 113 [I c,.iptr false [rqI s e a m]]=some (.bool<|c != m&&!ZoW s m c):=by
 have hP:=ZpL s m c h.c.E.sizes.rulings<|ZpQ h.c;have hcl:=Zow s;have hbl:=Zot s;rw[Z5 (f:=113) rfl rfl];cases c1:c != m with
 |false=>simp only[go_sem,c113,c1,ZSo]
 |true=>simp only[go_sem,c113,c1,hP,hcl,ZSc]
def ZqC(s:Sta)(h:ClS s)(p:Pt):(ZoH s p).length<=100000:=by
 unfold ZoH;rw[(Zp3 _).length_eq];have G:∀(l:List Region)(K:List Int),(l.foldl (ZoF s p) K).length<=K.length+l.length:=by
  intro l;induction l with
  |nil=>intro K;exact ZS6 _
  |cons x r ih=>
   intro K;rw[ZSy,ZSu];refine ZSz (ih _) ?_;have:(ZoF s p K x).length<=K.length+1:=by
    unfold ZoF Qi;cases ZoG x&&decide (ZoY x.Ring.l p>=0)with
    |false=>exact ZTb _
    |true=>
     rw[cond_true];cases K.any (Vm<|Zoq s x.Owner)with
     |true=>exact ZTb _
     |false=>rw[cond_false,ZSv];exact ZS6 _
   omega
 have:=G s.Regions [];have hl:=h.E.sizes.regions;unfold Zoy;simp only[ZSV]at this;omega
def ZpR(s:Sta)(e:Event)(a m:Int)(h:RqS s e m)(l:List Pt)(hl:l.length<=1000):∀(k i:Nat),i+k=l.length->
 ∃fr',(plE s m (l.drop i)=0->Zg rE [1,50,51,52] c69L0b [(1,.iptr false [rqI s e a m]),(50,.isl false false 2<|l.map Pt.enc),(51,I l.length),(52,I i)] []=some (.exit 1,fr',[]))/\
  (plE s m (l.drop i)≠0->Zg rE [1,50,51,52] c69L0b [(1,.iptr false [rqI s e a m]),(50,.isl false false 2<|l.map Pt.enc),(51,I l.length),(52,I i)] []=some (.ret,fr',[])/\get fr' 2=I (plE s m<|l.drop i))
 |0,i,hi=>by
  have hd:l.drop i=[]:=ZUw<|by omega
  have hi':i=l.length:=by omega
  refine⟨[(1,.iptr false [rqI s e a m]),(2,.bot),(50,.isl false false 2<|l.map Pt.enc),(51,I l.length),(52,I i)],λ_=>?_,λhc=>?_⟩
  .rw[hi'];refine Q7 rfl ?_ (by simp)
   simp only[go_sem,c69L0b,ZG]
  .rw[hd]at hc;exact absurd rfl hc
 |k+1,i,hi=>by
  obtain⟨x,hx⟩:∃x,l[i]?=some x:=⟨_,ZS5<|by omega⟩
  have hg:=Z6 (f:=Pt.enc) hx;have hi':=Zh<|Z7 hx;have hwr:=Zx (n:=i)<|by omega
  have hd:l.drop i=x::l.drop (i+1):=by
   rw[ZTe<|Z7 hx];congr 1;have:=ZS5<|Z7 hx;rw[hx]at this;exact(Option.some.inj this).symm
  have hcl:=Zow s;have hbl:=Zot s;have hc:Z4 [.iptr false [rqI s e a m]]=true:=by simp only[go_sem]
  have hC:=ZpO s h.c x;have hlen:=ZqC s h.c x;have hI:=DR (ZoH s x) false m<|by omega
  have hA:=Zqz (ZoH s x) (by omega) (λc=>c != m&&!ZoW s m c) 113 [.iptr false [rqI s e a m]] hc<|λc _=>ZqB s e a m h c
  rw[hd];unfold plE;cases c1:(ZoH s x).any (λy=>m==y)with
  |false=>
   rw[c1]at hI;refine⟨[(1,.iptr false [rqI s e a m]),(2,I 18),(50,.isl false false 2<|l.map Pt.enc),(51,I l.length),(52,I i)],λhq=>?_,λ_=>⟨?_,by simp only[go_sem,ZSs,cond_true]⟩⟩
   .exact absurd (show(18:Int)=0 from hq)<|by decide
   .refine Q7 rfl ?_ (by simp)
    simp only[go_sem,c69L0b,hg,hi',Pt.enc,hC,hI]
  |true=>
  rw[c1]at hI;cases c2:(ZoH s x).any (λc=>c != m&&!ZoW s m c)with
  |true=>
   rw[c2]at hA;refine⟨[(1,.iptr false [rqI s e a m]),(2,I 19),(50,.isl false false 2<|l.map Pt.enc),(51,I l.length),(52,I i)],λhq=>?_,λ_=>⟨?_,by simp only[go_sem,ZSn,cond_false,cond_true]⟩⟩
   .exact absurd (show(19:Int)=0 from hq)<|by decide
   .refine Q7 rfl ?_ (by simp)
    simp only[go_sem,c69L0b,hg,hi',Pt.enc,hC,hI,hA]
  |false=>
  rw[c2]at hA;obtain⟨fr',h1,h2⟩:=ZpR s e a m h l hl k (i+1)<|by omega
  have hstep:Zb rE c69L0b [(1,.iptr false [rqI s e a m]),(50,.isl false false 2<|l.map Pt.enc),(51,I l.length),(52,I i)] []=some (.normal,[(1,.iptr false [rqI s e a m]),(2,.bot),(50,.isl false false 2<|l.map Pt.enc),(51,I l.length),(52,I (i+1:Nat))],[]):=by
   simp only[go_sem,c69L0b,hg,hi',hwr,Pt.enc,hC,hI,hA]
  rw[Yt rfl hstep];exact⟨fr',h1,h2⟩
def ZqD(s:Sta)(e:Event)(a m:Int)(h:RqS s e m):pfn rE 69 [rqI s e a m]=some (I<|Zp1 s e a m):=by
 have hcl:=Zow s;have hbl:=Zot s;have hc:Z4 [.iptr false [rqI s e a m]]=true:=by simp only[go_sem]
 have hA:=ZpP s.Regions (by have:=h.c.E.sizes.regions;omega) (λx=>Z3 x.Id e.Id) 108 [.iptr false [rqI s e a m]] hc<|λx _=>ZqA s e a m x
 have hP:=Zqv e h.ev;have hlen:(ZoM e).length<=1000:=by
  unfold ZoM;have h1:=h.ev.lst;cases Q9 e with
  |false=>exact ZS7 _
  |true=>
  cases e.Kind==1||(e.Kind==2||e.Kind==5)with
  |true=>show(e.Path.l.take 1).length<=1000;rw[ZSD];omega
  |false=>
  cases e.Kind==6||e.Kind==10 with
  |true=>show 1<=1000;omega
  |false=>
  cases e.Kind==9 with
  |true=>show(e.Lst.l.map (·.Point)).length<=1000;rw[ZS4];omega
  |false=>exact ZS7 _
 have L:=ZpR s e a m h (ZoM e) hlen (ZoM e).length 0<|by omega
 rw[ZSr]at L;obtain⟨fr',l1,l2⟩:=L;simp only[evA]at hP;rw[Z5 (f:=69) rfl rfl];unfold Zp1;have z0:((0:Nat):Int)=0:=rfl;rw[z0]at l1 l2;by_cases hz:plE s m (ZoM e)=0
 .have l1:=l1 hz;rw[hz];cases k1:e.Kind==1 with
  |false=>simp only[go_sem,c69,c69L0,k1,hP,l1,cond_false,ZS4]
  |true=>
   cases k2:s.Regions.any (λx=>Z3 x.Id e.Id)with
   |true=>
    rw[k2]at hA;simp only[go_sem,c69,c69L0,k1,hA,cond_true]
   |false=>
   rw[k2]at hA;cases k3:e.A==1 with
   |false=>simp only[go_sem,c69,c69L0,k1,k3,hA,hP,l1,cond_true,cond_false,ZSo,ZS4]
   |true=>cases k4:a==0<;>simp only[go_sem,c69,c69L0,k1,k3,k4,hA,cond_true,cond_false,ZSc]
 .obtain⟨l2,l3⟩:=l2 hz;cases k1:e.Kind==1 with
  |false=>simp only[go_sem,c69,c69L0,k1,hP,l2,l3,cond_false,ZS4]
  |true=>
   cases k2:s.Regions.any (λx=>Z3 x.Id e.Id)with
   |true=>
    rw[k2]at hA;simp only[go_sem,c69,c69L0,k1,hA,cond_true]
   |false=>
   rw[k2]at hA;cases k3:e.A==1 with
   |false=>simp only[go_sem,c69,c69L0,k1,k3,hA,hP,l2,l3,cond_true,cond_false,ZSo,ZS4]
   |true=>cases k4:a==0<;>simp only[go_sem,c69,c69L0,k1,k3,k4,hA,cond_true,cond_false,ZSc]
def ZU(s:Str):Bool:=!decide ((s.size:Int)>100)
def Vv(bw ex:Bool)(l:List Str)(hl:l.length<9223372036854775807):pfn rE 89 [.isl bw ex 1<|l.map encS]=some (.bool<|l.all ZU):=by
 have L:=Uf (E:=rE) (live:=[0,3]) (b:=c89L0b) (h:=[]) l (λ_ x=>ZU x) (λi=>[(0,.isl bw ex 1<|l.map encS),(3,I i)]) 0 (λfr=>get fr 2=.bool false) (λi=>rfl)
  (λi x hx hP=>by
   have hg:=Z6 (f:=encS) hx;have hi:=Zh<|Z7 hx;have hw:=Zx (n:=i) (by have:=Z7 hx;omega)
   have hP':decide ((x.size:Int)>100)=false:=by simpa[ZU]using hP
   refine⟨_,by simp only[go_sem,c89L0b,hg,hi,hw,hP',encS];rfl,?_⟩
   simp only[go_sem])
  (λi x hx hP=>by
   have hg:=Z6 (f:=encS) hx;have hi:=Zh<|Z7 hx;have hP':decide ((x.size:Int)>100)=true:=by simpa[ZU]using hP
   refine⟨_,by simp only[go_sem,c89L0b,hg,hi,hP',encS];rfl,?_⟩
   simp only[go_sem])
  (⟨_,by simp only[go_sem,c89L0b,ZG];rfl⟩)
 rw[Z5 (f:=89) rfl rfl];rw[QE]at L;obtain⟨fr',h1,h2⟩:=L;have h1':Zg rE [0,3] c89L0b [(0,.isl bw ex 1<|l.map encS),(3,.int .i64 0)] []=_:=h1;cases hc:l.all ZU with
 |true=>rw[hc]at h1';simp only[go_sem,c89,c89L0,h1']
 |false=>
  rw[hc]at h1';have h2':=h2 hc;simp only[go_sem,c89,c89L0,h1',h2',ZSi]
def HG(a b:Str):pfn rE 89 [.isl false false 1 [.str a,.str b]]=some (.bool<|[a,b].all ZU):=Vv false false [a,b]<|by simp
def Z4y(a b c d:Str):pfn rE 89 [.isl false false 1 [.str a,.str b,.str c,.str d]]=some (.bool<|[a,b,c,d].all ZU):=Vv false false [a,b,c,d]<|by simp
def HH{α:Type}{l:List α}{n i:Nat}{x:α}(h:(l.take n)[i]?=some x):l[i]?=some x/\i<n:=by
 have hi:=Z7 h;rw[ZSD]at hi;rw[ZT3<|by omega]at h
 exact⟨h,by omega⟩
def FR{α:Type}(l:List α):(decide ((((l.take 10).length:Nat):Int)<(l.length:Int))=true->decide ((((l.take 10).length:Nat):Int)<10)=false):=by
 intro h;have:=of_decide_eq_true h;rw[ZSD]at*;exact decide_eq_false<|by omega
def M1(x:Nm):Bool:=[x.Lang,x.Text].all ZU
def XQ(l:List Nm):Bool:=(l.take 10).all M1&&decide ((l.length:Int)<=10)
def UQ(ex:Bool)(l:List Nm):pfn rE 90 [.isl false ex 3<|l.map Nm.enc]=some (.bool<|XQ l):=by
 have L:=QT (E:=rE) (live:=[0,3]) (b:=c90L0b) (h:=[]) (l.take 10) (λ_ x=>M1 x) (λi=>[(0,.isl false ex 3<|l.map Nm.enc),(3,I i)]) 0 (λfr=>get fr 0=.isl false ex 3 (l.map Nm.enc)/\get fr 2=.bot) (λfr=>get fr 2=.bool false) (λi=>rfl)
  (λi x hx hP=>by
   obtain⟨hx',hi10⟩:=HH hx;have hg:=Z6 (f:=Nm.enc) hx';have hi:=Zh<|Z7 hx';have hw:=Zx (n:=i)<|by omega
   have h10:decide ((i:Int)<10)=true:=decide_eq_true<|by omega
   have hS:=HG x.Lang x.Text;have hP':[x.Lang,x.Text].all ZU=true:=hP;rw[hP']at hS;refine⟨_,by simp only[go_sem,c90L0b,hg,hi,hw,h10,Nm.enc,hS];rfl,?_⟩
   simp only[go_sem])
  (λi x hx hP=>by
   obtain⟨hx',hi10⟩:=HH hx;have hg:=Z6 (f:=Nm.enc) hx';have hi:=Zh<|Z7 hx';have h10:decide ((i:Int)<10)=true:=decide_eq_true<|by omega
   have hS:=HG x.Lang x.Text;have hP':[x.Lang,x.Text].all ZU=false:=hP;rw[hP']at hS;refine⟨_,by simp only[go_sem,c90L0b,hg,hi,h10,Nm.enc,hS];rfl,?_⟩
   simp only[go_sem])
  (by
   cases c:decide ((((l.take 10).length:Nat):Int)<(l.length:Int))with
   |true=>
    have h10:=FR l c;exact⟨_,by simp only[go_sem,c90L0b,c,h10];rfl,by simp only[go_sem],by simp only[go_sem]⟩
   |false=>exact⟨_,by simp only[go_sem,c90L0b,c];rfl,by simp only[go_sem],by simp only[go_sem]⟩)
 rw[Z5 (f:=90) rfl rfl];rw[QE]at L;obtain⟨fr',h1,h3,h2⟩:=L;have h1':Zg rE [0,3] c90L0b [(0,.isl false ex 3<|l.map Nm.enc),(3,.int .i64 0)] []=_:=h1;unfold XQ;cases hc:(l.take 10).all M1 with
 |true=>
  rw[hc]at h1';obtain⟨q0,q2⟩:=h3 hc;simp only[go_sem,c90,c90L0,h1',q0,q2]
 |false=>
  rw[hc]at h1';have h2':=h2 hc;simp only[go_sem,c90,c90L0,h1',h2',ZSi]
def M2(x:Ent):Bool:=[x.Id,x.Number.Letter].all ZU
def FT(l:List Ent):Bool:=(l.take 10).all M2
abbrev evI(e:Event):AV:=.iptr false [I e.Kind,I e.Day,I e.A,I e.B,I e.Office,.str e.Id,.str e.Other,.str e.Text,.isl false e.Ids.ex 1<|e.Ids.l.map encS,.isl false e.Names.ex 3<|e.Names.l.map Nm.enc,
 I e.Number.N,.str e.Number.Letter,I e.Number.Num,I e.Number.Den,I e.Point.X,I e.Point.Y,.isl false e.Path.ex 2<|e.Path.l.map Pt.enc,.isl false e.Lst.ex 7<|e.Lst.l.map Ent.enc]
def Xn(e:Event):Bool:=
 FT e.Lst.l&&([e.Id,e.Other,e.Text,e.Number.Letter].all ZU&&(decide ((e.Ids.l.length:Int)<=10)&&(e.Ids.l.all ZU&&(XQ e.Names.l&&(decide ((e.Path.l.length:Int)<=12)&&decide ((e.Lst.l.length:Int)<=10))))))
def Z4z(e:Event):pfn rE 40 [evA e]=some (.bool<|Xn e):=by
 have L:=QT (E:=rE) (live:=[1,3]) (b:=c40L0b) (h:=[]) (e.Lst.l.take 10) (λ_ x=>M2 x) (λi=>[(1,evI e),(3,I i)]) 0 (λfr=>get fr 1=evI e/\get fr 2=.bot) (λfr=>get fr 2=.bool false) (λi=>rfl)
  (λi x hx hP=>by
   obtain⟨hx',hi10⟩:=HH hx;have hg:=Z6 (f:=Ent.enc) hx';have hi:=Zh<|Z7 hx';have hw:=Zx (n:=i)<|by omega
   have h10:decide ((i:Int)<10)=true:=decide_eq_true<|by omega
   have hS:=HG x.Id x.Number.Letter;have hP':[x.Id,x.Number.Letter].all ZU=true:=hP;rw[hP']at hS;refine⟨_,by simp only[go_sem,c40L0b,hg,hi,hw,h10,Ent.enc,hS];rfl,?_⟩
   simp only[go_sem])
  (λi x hx hP=>by
   obtain⟨hx',hi10⟩:=HH hx;have hg:=Z6 (f:=Ent.enc) hx';have hi:=Zh<|Z7 hx';have h10:decide ((i:Int)<10)=true:=decide_eq_true<|by omega
   have hS:=HG x.Id x.Number.Letter;have hP':[x.Id,x.Number.Letter].all ZU=false:=hP;rw[hP']at hS;refine⟨_,by simp only[go_sem,c40L0b,hg,hi,h10,Ent.enc,hS];rfl,?_⟩
   simp only[go_sem])
  (by
   cases c:decide ((((e.Lst.l.take 10).length:Nat):Int)<(e.Lst.l.length:Int))with
   |true=>
    have h10:=FR e.Lst.l c;exact⟨_,by simp only[go_sem,c40L0b,c,h10];rfl,by simp only[go_sem],by simp only[go_sem]⟩
   |false=>exact⟨_,by simp only[go_sem,c40L0b,c];rfl,by simp only[go_sem],by simp only[go_sem]⟩)
 rw[Z5 (f:=40) rfl rfl];rw[QE]at L;obtain⟨fr',h1,h3,h2⟩:=L;have h1':Zg rE [1,3] c40L0b [(1,evI e),(3,.int .i64 0)] []=_:=h1;have hS:=Z4y e.Id e.Other e.Text e.Number.Letter;have hN:=UQ e.Names.ex e.Names.l;unfold Xn FT;cases hc:(e.Lst.l.take 10).all M2 with
 |false=>
  rw[hc]at h1';have h2':=h2 hc;simp only[evI]at h1';simp only[go_sem,c40,c40L0,h1',h2',ZSi]
 |true=>
  rw[hc]at h1';obtain⟨q1,q2⟩:=h3 hc;simp only[evI]at h1' q1;cases c1:[e.Id,e.Other,e.Text,e.Number.Letter].all ZU with
  |false=>rw[c1]at hS;simp only[go_sem,c40,c40L0,h1',q1,q2,hS]
  |true=>
  rw[c1]at hS;cases c2:decide ((e.Ids.l.length:Int)<=10)with
  |false=>simp only[go_sem,c40,c40L0,h1',q1,q2,hS,c2]
  |true=>
  have hI:=Vv false e.Ids.ex e.Ids.l (by have:=of_decide_eq_true c2;omega)
  cases c5003:e.Ids.l.all ZU with
  |false=>rw[c5003]at hI;simp only[go_sem,c40,c40L0,h1',q1,q2,hS,c2,hI]
  |true=>
  rw[c5003]at hI;cases c5004:XQ e.Names.l with
  |false=>rw[c5004]at hN;simp only[go_sem,c40,c40L0,h1',q1,q2,hS,c2,hI,hN]
  |true=>
  rw[c5004]at hN;cases c5005:decide ((e.Path.l.length:Int)<=12)with
  |false=>simp only[go_sem,c40,c40L0,h1',q1,q2,hS,c2,hI,hN,c5005]
  |true=>simp only[go_sem,c40,c40L0,h1',q1,q2,hS,c2,hI,hN,c5005]
def JL(e:Event)(h:Xn e=true):EvS e:=by
 simp only[Xn,ZS3]at h;obtain⟨_,h1,h2,h3,h4,h5,h6⟩:=h;have k2:=of_decide_eq_true h2;have k5:=of_decide_eq_true h5;have k6:=of_decide_eq_true h6;have k4:(e.Names.l.length:Int)<=10:=by
  simp only[XQ,ZS3]at h4;exact of_decide_eq_true h4.2
 simp[ZU]at h1;exact⟨by omega,by omega,by omega,by omega,by omega,by omega,by omega⟩
def kOf(ks:List Int)(e:Event):Bool:=ks.any<|λx=>e.Kind==x
def ZoJ(e:Event)(ks:List Int)(ex:Bool)(hl:ks.length<=1000):pfn rE 186 [.isl false ex 1<|ks.map I,evI e]=some (.bool<|kOf ks e):=by
 have h:=DR ks ex e.Kind<|by omega
 rw[Z5 (f:=186) rfl rfl];unfold kOf;simp only[go_sem,c186,h]
def Zor(s:Sta)(e:Event):List Str:=
 (((e.Ids.l++bif kOf [9,12] e then [e.Id]else [])++bif kOf [7] e then [e.Other]else [])++bif kOf [8] e then e.Lst.l.map (·.Id)else [])++bif kOf [12] e then(s.Units.filter<|λu=>Z3 u.Id e.Id).map (·.Door)else []
def ZoQ(e:Event)(x:Region):Bool:=kOf [1,3,12] e&&Z3 x.Id e.Id
def ZoR(e:Event)(x:Street):Bool:=(kOf [3,4,8,12] e&&Z3 x.Id e.Id)||((kOf [4] e&&Z3 x.Id e.Other)||(kOf [6] e&&Z3 x.Id e.Text))
def ZoS(e:Event)(x:Building):Bool:=(kOf [11] e&&Z3 x.Id e.Id)||(kOf [6] e&&Z3 x.Id e.Other)
def ZoT(l:List Str)(x:Door):Bool:=l.any<|λy=>Z3 x.Id y
def Zou(s:Sta)(m o:Int):Bool:=Zoq s o==m
def Zpb(s:Sta)(e:Event)(m:Int):Bool:=
 s.Regions.all (λx=>!ZoQ e x||Zou s m x.Owner)&&(s.Streets.all (λx=>!ZoR e x||Zou s m x.Owner)&&(s.Buildings.all (λx=>!ZoS e x||Zou s m x.Owner)&&s.Doors.all (λx=>!ZoT (Zor s e) x||Zou s m x.Owner)))
def Zp6(s:Sta)(e:Event)(m:Int):Int:=bif Zpb s e m then 0 else 18
def ZoA(s:Sta)(e:Event)(a m:Int):Fr:=[(1,.iptr false [rqI s e a m]),(2,.ptr 0 0 0 1),(12,.clo (.func 187) [] [.iptr false [ldI s],.ptr 1 0 0 1,evI e,.ptr 3 0 0 1])]
def thX(s:Sta)(e:Event)(a m:Int)(n:Int)(st:LoopState)(ex:AExit)(l:List Str):Hp:=[.row 1 [I n],.row 1 [.clo (.func 186) [] [evI e]],.row 1<|l.map encS,.row 1 [.sl 2 l.length 0 l.length false],.loop st ex (ZoA s e a m) [13] c67R0a c67R0b]
abbrev thH(s:Sta)(e:Event)(a m:Int):Hp:=thX s e a m 0 .ready .normal<|Zor s e
abbrev thD(s:Sta)(e:Event)(a m:Int):Hp:=thX s e a m 18 .done .ret<|Zor s e
def ZoI(s:Sta)(e:Event)(a m:Int):Zd 5 (frV<|ZoA s e a m)=true/\Zd 6 (frV<|ZoA s e a m)=true:=by
 have hbl:=Zot s;have hcl:=Zow s;have hc:Z4 [rqI s e a m,ldI s,evI e]=true:=by simp only[go_sem,hcl]
 have hb:=λn=>ZN (n:=n) _ hc
 simp only[Zd,ZS3]at hb;constructor
 .obtain⟨h1,h2,h3,_⟩:=hb 5;simp only[go_sem,ZoA,h1,h2,h3,hbl]
 .obtain⟨h1,h2,h3,_⟩:=hb 6;simp only[go_sem,ZoA,h1,h2,h3,hbl]
def Zpc(s:Sta)(e:Event)(a m:Int)(o:Int)(q:AObj)(hq:∀n,Zj n q=true)(hM:pfn rE 65 [ldI s,I o]=some (I<|Zoq s o)):
 U4 rE 4 [I o] (thH s e a m++[q])=some (bif Zou s m o then(.bool true,thH s e a m++[q])else(.bool false,thD s e a m++[q])):=by
 have hcl:=Zow s;have hbl:=Zot s;obtain⟨hf4,hf5⟩:=ZoI s e a m;unfold Zou;have hS:∀n,Zd n ((Zor s e).map encS)=true:=λn=>ZN _<|Zw (λt=>rfl) _
 cases c:Zoq s o==m with
 |true=>
  have h:=Ss (E:=rE) (b:=4) (args:=[I o]) (h:=thH s e a m++[q]) (fr:=ZoA s e a m) (ps:=[13]) (assign:=c67R0a) (body:=c67R0b)
   (fr0:=(13,I o)::ZoA s e a m) rfl rfl (by simp only[go_sem,c67R0a,thX,ZoA,ZS8,ZSa]<;>rfl) (by rfl)
   (e:=.normal) (fr2:=[]) (h2:=thX s e a m 0 .busy .normal (Zor s e)++[q])
   (by
    have hne:(Zoq s o != m)=false:=by rw[bne,c];rfl
    simp only[go_sem,c67R0b,thX,ZoA,ZS8,ZSa,hM,hne,hcl,hbl,hq,hS]<;>rfl) (by rfl)
  exact h
 |false=>
  have h:=Ss (E:=rE) (b:=4) (args:=[I o]) (h:=thH s e a m++[q]) (fr:=ZoA s e a m) (ps:=[13]) (assign:=c67R0a) (body:=c67R0b)
   (fr0:=(13,I o)::ZoA s e a m) rfl rfl (by simp only[go_sem,c67R0a,thX,ZoA,ZS8,ZSa]<;>rfl) (by rfl)
   (e:=.ret) (fr2:=[]) (h2:=thX s e a m 18 .busy .normal (Zor s e)++[q])
   (by
    have hne:(Zoq s o != m)=true:=by rw[bne,c];rfl
    simp only[go_sem,c67R0b,thX,ZoA,ZS8,ZSa,hM,hne,hcl,hbl,hq,hS]<;>rfl) (by rfl)
  exact h
def ZpS(s:Sta)(e:Event)(a m:Int)(h:RqS s e m)(i:Nat)(x:Region)(hx:s.Regions[i]?=some x)(hl:s.Regions.length<=1000)(ho:0<=x.Owner):
 Zb rE c187L0b [(0,.yld 4),(1,.iptr false [ldI s]),(2,.ptr 1 0 0 1),(3,evI e),(4,.ptr 3 0 0 1),(20,.isl false false 6<|s.Regions.map Region.enc),(21,I s.Regions.length),(22,I i)] (thH s e a m)=bif !ZoQ e x||Zou s m x.Owner then some (.normal,[(0,.yld 4),(1,.iptr false [ldI s]),(2,.ptr 1 0 0 1),(3,evI e),(4,.ptr 3 0 0 1),(20,.isl false false 6<|s.Regions.map Region.enc),(21,I s.Regions.length),(22,I (i+1:Nat))],thH s e a m)else some (.ret,[(0,.yld 4),(1,.iptr false [ldI s]),(2,.ptr 1 0 0 1),(3,evI e),(4,.ptr 3 0 0 1),(20,.isl false false 6<|s.Regions.map Region.enc),(21,I s.Regions.length),(22,I i)],thD s e a m):=by
 have hg:=Z6 (f:=Region.enc) hx;have hi':=Zh<|Z7 hx;have hwr:=Zx (n:=i) (by have:=Z7 hx;omega)
 have hcl:=Zow s;have hbl:=Zot s;obtain⟨hf4,hf5⟩:=ZoI s e a m;have hS:∀n,Zd n ((Zor s e).map encS)=true:=λn=>ZN _<|Zw (λt=>rfl) _
 have hq:∀n,Zj n (.row 6 [x.enc])=true:=λn=>ZN (n:=n) [x.enc]<|Zw (f:=Region.enc) (λt=>rfl) [x]
 have hy:=Zpc s e a m x.Owner (.row 6 [x.enc]) hq<|h.c.mst ho;simp only[thX,ZS8,ZSa,Region.enc,NL.enc]at hy;simp only[Region.enc,NL.enc]at hq;have hk0:=ZoJ e [1,3,12] false<|by decide
 simp only[ZS9,ZSq]at hk0;unfold ZoQ;cases c1:kOf [1,3,12] e with
 |false=>
  rw[c1]at hk0;simp only[go_sem,c187L0b,thX,S3,hg,hi',hwr,hcl,hbl,hf4,hf5,hq,hS,hy,Region.enc,NL.enc,ZSn,ZSs,ZSl,ZSe,ZTj,ZSM,ZSc,ZSo,cond_true,cond_false,hk0]
 |true=>
 rw[c1]at hk0;cases c2:Z3 x.Id e.Id with
 |false=>simp only[go_sem,c187L0b,thX,S3,hg,hi',hwr,hcl,hbl,hf4,hf5,hq,hS,hy,Region.enc,NL.enc,ZSn,ZSs,ZSl,ZSe,ZTj,ZSM,ZSc,ZSo,cond_true,cond_false,hk0,c2]
 |true=>cases c5009:Zou s m x.Owner<;>rw[c5009]at hy<;>simp only[cond_true,cond_false]at hy<;>simp only[go_sem,c187L0b,thX,S3,hg,hi',hwr,hcl,hbl,hf4,hf5,hq,hS,hy,Region.enc,NL.enc,ZSn,ZSs,ZSl,ZSe,ZTj,ZSM,ZSc,ZSo,cond_true,cond_false,hk0,c2]
set_option maxHeartbeats 4000000 in
def ZpT(s:Sta)(e:Event)(a m:Int)(h:RqS s e m)(i:Nat)(x:Street)(hx:s.Streets[i]?=some x)(hl:s.Streets.length<=1000)(ho:0<=x.Owner):
 Zb rE c187L1b [(0,.yld 4),(1,.iptr false [ldI s]),(2,.ptr 1 0 0 1),(3,evI e),(4,.ptr 3 0 0 1),(48,.isl false false 5<|s.Streets.map Street.enc),(49,I s.Streets.length),(50,I i)] (thH s e a m)=bif !ZoR e x||Zou s m x.Owner then some (.normal,[(0,.yld 4),(1,.iptr false [ldI s]),(2,.ptr 1 0 0 1),(3,evI e),(4,.ptr 3 0 0 1),(48,.isl false false 5<|s.Streets.map Street.enc),(49,I s.Streets.length),(50,I (i+1:Nat))],thH s e a m)else some (.ret,[(0,.yld 4),(1,.iptr false [ldI s]),(2,.ptr 1 0 0 1),(3,evI e),(4,.ptr 3 0 0 1),(48,.isl false false 5<|s.Streets.map Street.enc),(49,I s.Streets.length),(50,I i)],thD s e a m):=by
 have hg:=Z6 (f:=Street.enc) hx;have hi':=Zh<|Z7 hx;have hwr:=Zx (n:=i) (by have:=Z7 hx;omega)
 have hcl:=Zow s;have hbl:=Zot s;obtain⟨hf4,hf5⟩:=ZoI s e a m;have hS:∀n,Zd n ((Zor s e).map encS)=true:=λn=>ZN _<|Zw (λt=>rfl) _
 have hq:∀n,Zj n (.row 5 [x.enc])=true:=λn=>ZN (n:=n) [x.enc]<|Zw (f:=Street.enc) (λt=>rfl) [x]
 have hy:=Zpc s e a m x.Owner (.row 5 [x.enc]) hq<|h.c.mst ho;simp only[thX,ZS8,ZSa,Street.enc,NL.enc]at hy;simp only[Street.enc,NL.enc]at hq;have hk0:=ZoJ e [3,4,8,12] false<|by decide
 simp only[ZS9,ZSq]at hk0;have hk1:=ZoJ e [4] false<|by decide
 simp only[ZS9,ZSq]at hk1;have hk2:=ZoJ e [6] false<|by decide
 simp only[ZS9,ZSq]at hk2;unfold ZoR;cases c1:kOf [3,4,8,12] e<;>cases c5004:kOf [4] e<;>cases c5006:kOf [6] e<;>rw[c1]at hk0<;>rw[c5004]at hk1<;>rw[c5006]at hk2<;>cases d1:Z3 x.Id e.Id<;>cases d2:Z3 x.Id e.Other<;>cases d3:Z3 x.Id e.Text<;>
  (first|(simp only[go_sem,c187L1b,thX,S3,hg,hi',hwr,hcl,hbl,hf4,hf5,hq,hS,hy,Street.enc,NL.enc,ZSn,ZSs,ZSl,ZSe,ZTj,ZSM,ZSc,ZSo,cond_true,cond_false,hk0,hk1,hk2,d1,d2,d3];done)|(cases c5009:Zou s m x.Owner<;>rw[c5009]at hy<;>simp only[cond_true,cond_false]at hy<;>simp only[go_sem,c187L1b,thX,S3,hg,hi',hwr,hcl,hbl,hf4,hf5,hq,hS,hy,Street.enc,NL.enc,ZSn,ZSs,ZSl,ZSe,ZTj,ZSM,ZSc,ZSo,cond_true,cond_false,hk0,hk1,hk2,d1,d2,d3]))
set_option maxHeartbeats 1000000 in
def ZpU(s:Sta)(e:Event)(a m:Int)(h:RqS s e m)(i:Nat)(x:Building)(hx:s.Buildings[i]?=some x)(hl:s.Buildings.length<=1000)(ho:0<=x.Owner):
 Zb rE c187L2b [(0,.yld 4),(1,.iptr false [ldI s]),(2,.ptr 1 0 0 1),(3,evI e),(4,.ptr 3 0 0 1),(102,.isl false false 4<|s.Buildings.map Building.enc),(103,I s.Buildings.length),(104,I i)] (thH s e a m)=bif !ZoS e x||Zou s m x.Owner then some (.normal,[(0,.yld 4),(1,.iptr false [ldI s]),(2,.ptr 1 0 0 1),(3,evI e),(4,.ptr 3 0 0 1),(102,.isl false false 4<|s.Buildings.map Building.enc),(103,I s.Buildings.length),(104,I (i+1:Nat))],thH s e a m)else some (.ret,[(0,.yld 4),(1,.iptr false [ldI s]),(2,.ptr 1 0 0 1),(3,evI e),(4,.ptr 3 0 0 1),(102,.isl false false 4<|s.Buildings.map Building.enc),(103,I s.Buildings.length),(104,I i)],thD s e a m):=by
 have hg:=Z6 (f:=Building.enc) hx;have hi':=Zh<|Z7 hx;have hwr:=Zx (n:=i) (by have:=Z7 hx;omega)
 have hcl:=Zow s;have hbl:=Zot s;obtain⟨hf4,hf5⟩:=ZoI s e a m;have hS:∀n,Zd n ((Zor s e).map encS)=true:=λn=>ZN _<|Zw (λt=>rfl) _
 have hq:∀n,Zj n (.row 4 [x.enc])=true:=λn=>ZN (n:=n) [x.enc]<|Zw (f:=Building.enc) (λt=>rfl) [x]
 have hy:=Zpc s e a m x.Owner (.row 4 [x.enc]) hq<|h.c.mst ho;simp only[thX,ZS8,ZSa,Building.enc,NL.enc]at hy;simp only[Building.enc,NL.enc]at hq;have hk0:=ZoJ e [11] false<|by decide
 simp only[ZS9,ZSq]at hk0;have hk1:=ZoJ e [6] false<|by decide
 simp only[ZS9,ZSq]at hk1;unfold ZoS;cases c1:kOf [11] e<;>cases c5006:kOf [6] e<;>rw[c1]at hk0<;>rw[c5006]at hk1<;>cases d1:Z3 x.Id e.Id<;>cases d2:Z3 x.Id e.Other<;>
  (first|(simp only[go_sem,c187L2b,thX,S3,hg,hi',hwr,hcl,hbl,hf4,hf5,hq,hS,hy,Building.enc,NL.enc,ZSn,ZSs,ZSl,ZSe,ZTj,ZSM,ZSc,ZSo,cond_true,cond_false,hk0,hk1,d1,d2];done)|(cases c5009:Zou s m x.Owner<;>rw[c5009]at hy<;>simp only[cond_true,cond_false]at hy<;>simp only[go_sem,c187L2b,thX,S3,hg,hi',hwr,hcl,hbl,hf4,hf5,hq,hS,hy,Building.enc,NL.enc,ZSn,ZSs,ZSl,ZSe,ZTj,ZSM,ZSc,ZSo,cond_true,cond_false,hk0,hk1,d1,d2]))
def ZpV(s:Sta)(e:Event)(a m:Int)(h:RqS s e m)(i:Nat)(x:Door)(hx:s.Doors[i]?=some x)(hl:s.Doors.length<=1000)(ho:0<=x.Owner)(hd:(Zor s e).length<=100000):
 Zb rE c187L3b [(0,.yld 4),(4,.ptr 3 0 0 1),(142,.isl false false 16<|s.Doors.map Door.enc),(143,I s.Doors.length),(144,I i)] (thH s e a m)=bif !ZoT (Zor s e) x||Zou s m x.Owner then some (.normal,[(0,.yld 4),(4,.ptr 3 0 0 1),(142,.isl false false 16<|s.Doors.map Door.enc),(143,I s.Doors.length),(144,I (i+1:Nat))],thH s e a m)else some (.ret,[(0,.yld 4),(4,.ptr 3 0 0 1),(142,.isl false false 16<|s.Doors.map Door.enc),(143,I s.Doors.length),(144,I i)],thD s e a m):=by
 have hg:=Z6 (f:=Door.enc) hx;have hi':=Zh<|Z7 hx;have hwr:=Zx (n:=i) (by have:=Z7 hx;omega)
 have hcl:=Zow s;have hbl:=Zot s;obtain⟨hf4,hf5⟩:=ZoI s e a m;have hS:∀n,Zd n ((Zor s e).map encS)=true:=λn=>ZN _<|Zw (λt=>rfl) _
 have hq:∀n,Zj n (.row 16 [x.enc])=true:=λn=>ZN (n:=n) [x.enc]<|Zw (f:=Door.enc) (λt=>rfl) [x]
 have hy:=Zpc s e a m x.Owner (.row 16 [x.enc]) hq<|h.c.mst ho;simp only[thX,ZS8,ZSa,Door.enc,NL.enc]at hy;simp only[Door.enc,NL.enc]at hq;unfold ZoT;have hD:=Zqr (Zor s e) hd x.Id true false;have hcS:Z4 ((Zor s e).map encS)=true:=Zw (λt=>rfl) _
 have htk:List.take (Zor s e).length ((Zor s e).map encS)=(Zor s e).map encS:=ZSk<|by simp
 cases c1:(Zor s e).any (λy=>Z3 x.Id y)with
 |false=>
  rw[c1]at hD;simp only[go_sem,c187L3b,thX,S3,hg,hi',hwr,hcl,hbl,hf4,hf5,hq,hS,hy,Door.enc,NL.enc,ZSn,ZSs,ZSl,ZSe,ZTj,ZSM,ZSc,ZSo,cond_true,cond_false,hD,hcS,htk,ZS4,ZSr,beq_self_eq_true]
 |true=>
  rw[c1]at hD;cases c5009:Zou s m x.Owner<;>rw[c5009]at hy<;>simp only[cond_true,cond_false]at hy<;>simp only[go_sem,c187L3b,thX,S3,hg,hi',hwr,hcl,hbl,hf4,hf5,hq,hS,hy,Door.enc,NL.enc,ZSn,ZSs,ZSl,ZSe,ZTj,ZSM,ZSc,ZSo,cond_true,cond_false,hD,hcS,htk,ZS4,ZSr,beq_self_eq_true]
def ZqE(s:Sta)(e:Event)(a m:Int)(h:RqS s e m)(hl:s.Regions.length<=1000)(ho:∀x∈s.Regions,0<=x.Owner):
 ∃fr' h',Zg rE [0,1,2,3,4,20,21,22] c187L0b [(0,.yld 4),(1,.iptr false [ldI s]),(2,.ptr 1 0 0 1),(3,evI e),(4,.ptr 3 0 0 1),(20,.isl false false 6<|s.Regions.map Region.enc),(21,I s.Regions.length),(22,.int .i64 0)] (thH s e a m)=some (if s.Regions.all (λx=>!ZoQ e x||Zou s m x.Owner)=true then .exit 0 else .ret,fr',h')/\
  (s.Regions.all (λx=>!ZoQ e x||Zou s m x.Owner)=true->fr'=[(0,.yld 4),(1,.iptr false [ldI s]),(2,.ptr 1 0 0 1),(3,evI e),(4,.ptr 3 0 0 1),(20,.isl false false 6<|s.Regions.map Region.enc),(21,I s.Regions.length),(22,I s.Regions.length)]/\h'=thH s e a m)/\(s.Regions.all (λx=>!ZoQ e x||Zou s m x.Owner)=false->h'=thD s e a m):=by
 have hbl:=Zot s;have hcl:=Zow s;obtain⟨hf4,hf5⟩:=ZoI s e a m;have hS:∀n,Zd n ((Zor s e).map encS)=true:=λn=>ZN _<|Zw (λt=>rfl) _
 have L:=Jk (E:=rE) (live:=[0,1,2,3,4,20,21,22]) (b:=c187L0b) s.Regions (λ_ x=>!ZoQ e x||Zou s m x.Owner) (λi=>[(0,.yld 4),(1,.iptr false [ldI s]),(2,.ptr 1 0 0 1),(3,evI e),(4,.ptr 3 0 0 1),(20,.isl false false 6<|s.Regions.map Region.enc),(21,I s.Regions.length),(22,I i)]) (λ_=>thH s e a m) 0
  (λfr h'=>fr=[(0,.yld 4),(1,.iptr false [ldI s]),(2,.ptr 1 0 0 1),(3,evI e),(4,.ptr 3 0 0 1),(20,.isl false false 6<|s.Regions.map Region.enc),(21,I s.Regions.length),(22,I s.Regions.length)]/\h'=thH s e a m) (λ_ h'=>h'=thD s e a m) (λi=>rfl)
  (λi x hx hP=>by
   have:=ZpS s e a m h i x hx hl<|ho x<|ZSd hx;rw[hP,cond_true]at this;exact⟨_,this,rfl⟩)
  (λi x hx hP=>by
   have:=ZpS s e a m h i x hx hl<|ho x<|ZSd hx;rw[hP,cond_false]at this;exact⟨_,_,this,rfl⟩)
  ⟨[(0,.yld 4),(1,.iptr false [ldI s]),(2,.ptr 1 0 0 1),(3,evI e),(4,.ptr 3 0 0 1),(20,.isl false false 6<|s.Regions.map Region.enc),(21,I s.Regions.length),(22,I s.Regions.length)],thH s e a m,by simp only[go_sem,c187L0b,thX,ZG,hf4,hS],rfl,rfl⟩
 rw[QE]at L;exact L
def ZqF(s:Sta)(e:Event)(a m:Int)(h:RqS s e m)(hl:s.Streets.length<=1000)(ho:∀x∈s.Streets,0<=x.Owner):
 ∃fr' h',Zg rE [0,1,2,3,4,48,49,50] c187L1b [(0,.yld 4),(1,.iptr false [ldI s]),(2,.ptr 1 0 0 1),(3,evI e),(4,.ptr 3 0 0 1),(48,.isl false false 5<|s.Streets.map Street.enc),(49,I s.Streets.length),(50,.int .i64 0)] (thH s e a m)=some (if s.Streets.all (λx=>!ZoR e x||Zou s m x.Owner)=true then .exit 2 else .ret,fr',h')/\
  (s.Streets.all (λx=>!ZoR e x||Zou s m x.Owner)=true->fr'=[(0,.yld 4),(1,.iptr false [ldI s]),(2,.ptr 1 0 0 1),(3,evI e),(4,.ptr 3 0 0 1),(48,.isl false false 5<|s.Streets.map Street.enc),(49,I s.Streets.length),(50,I s.Streets.length)]/\h'=thH s e a m)/\(s.Streets.all (λx=>!ZoR e x||Zou s m x.Owner)=false->h'=thD s e a m):=by
 have hbl:=Zot s;have hcl:=Zow s;obtain⟨hf4,hf5⟩:=ZoI s e a m;have hS:∀n,Zd n ((Zor s e).map encS)=true:=λn=>ZN _<|Zw (λt=>rfl) _
 have L:=Jk (E:=rE) (live:=[0,1,2,3,4,48,49,50]) (b:=c187L1b) s.Streets (λ_ x=>!ZoR e x||Zou s m x.Owner) (λi=>[(0,.yld 4),(1,.iptr false [ldI s]),(2,.ptr 1 0 0 1),(3,evI e),(4,.ptr 3 0 0 1),(48,.isl false false 5<|s.Streets.map Street.enc),(49,I s.Streets.length),(50,I i)]) (λ_=>thH s e a m) 2
  (λfr h'=>fr=[(0,.yld 4),(1,.iptr false [ldI s]),(2,.ptr 1 0 0 1),(3,evI e),(4,.ptr 3 0 0 1),(48,.isl false false 5<|s.Streets.map Street.enc),(49,I s.Streets.length),(50,I s.Streets.length)]/\h'=thH s e a m) (λ_ h'=>h'=thD s e a m) (λi=>rfl)
  (λi x hx hP=>by
   have:=ZpT s e a m h i x hx hl<|ho x<|ZSd hx;rw[hP,cond_true]at this;exact⟨_,this,rfl⟩)
  (λi x hx hP=>by
   have:=ZpT s e a m h i x hx hl<|ho x<|ZSd hx;rw[hP,cond_false]at this;exact⟨_,_,this,rfl⟩)
  ⟨[(0,.yld 4),(1,.iptr false [ldI s]),(2,.ptr 1 0 0 1),(3,evI e),(4,.ptr 3 0 0 1),(48,.isl false false 5<|s.Streets.map Street.enc),(49,I s.Streets.length),(50,I s.Streets.length)],thH s e a m,by simp only[go_sem,c187L1b,thX,ZG,hf4,hS],rfl,rfl⟩
 rw[QE]at L;exact L
def ZqG(s:Sta)(e:Event)(a m:Int)(h:RqS s e m)(hl:s.Buildings.length<=1000)(ho:∀x∈s.Buildings,0<=x.Owner):
 ∃fr' h',Zg rE [0,1,2,3,4,102,103,104] c187L2b [(0,.yld 4),(1,.iptr false [ldI s]),(2,.ptr 1 0 0 1),(3,evI e),(4,.ptr 3 0 0 1),(102,.isl false false 4<|s.Buildings.map Building.enc),(103,I s.Buildings.length),(104,.int .i64 0)] (thH s e a m)=some (if s.Buildings.all (λx=>!ZoS e x||Zou s m x.Owner)=true then .exit 4 else .ret,fr',h')/\
  (s.Buildings.all (λx=>!ZoS e x||Zou s m x.Owner)=true->fr'=[(0,.yld 4),(1,.iptr false [ldI s]),(2,.ptr 1 0 0 1),(3,evI e),(4,.ptr 3 0 0 1),(102,.isl false false 4<|s.Buildings.map Building.enc),(103,I s.Buildings.length),(104,I s.Buildings.length)]/\h'=thH s e a m)/\(s.Buildings.all (λx=>!ZoS e x||Zou s m x.Owner)=false->h'=thD s e a m):=by
 have hbl:=Zot s;have hcl:=Zow s;obtain⟨hf4,hf5⟩:=ZoI s e a m;have hS:∀n,Zd n ((Zor s e).map encS)=true:=λn=>ZN _<|Zw (λt=>rfl) _
 have L:=Jk (E:=rE) (live:=[0,1,2,3,4,102,103,104]) (b:=c187L2b) s.Buildings (λ_ x=>!ZoS e x||Zou s m x.Owner) (λi=>[(0,.yld 4),(1,.iptr false [ldI s]),(2,.ptr 1 0 0 1),(3,evI e),(4,.ptr 3 0 0 1),(102,.isl false false 4<|s.Buildings.map Building.enc),(103,I s.Buildings.length),(104,I i)]) (λ_=>thH s e a m) 4
  (λfr h'=>fr=[(0,.yld 4),(1,.iptr false [ldI s]),(2,.ptr 1 0 0 1),(3,evI e),(4,.ptr 3 0 0 1),(102,.isl false false 4<|s.Buildings.map Building.enc),(103,I s.Buildings.length),(104,I s.Buildings.length)]/\h'=thH s e a m) (λ_ h'=>h'=thD s e a m) (λi=>rfl)
  (λi x hx hP=>by
   have:=ZpU s e a m h i x hx hl<|ho x<|ZSd hx;rw[hP,cond_true]at this;exact⟨_,this,rfl⟩)
  (λi x hx hP=>by
   have:=ZpU s e a m h i x hx hl<|ho x<|ZSd hx;rw[hP,cond_false]at this;exact⟨_,_,this,rfl⟩)
  ⟨[(0,.yld 4),(1,.iptr false [ldI s]),(2,.ptr 1 0 0 1),(3,evI e),(4,.ptr 3 0 0 1),(102,.isl false false 4<|s.Buildings.map Building.enc),(103,I s.Buildings.length),(104,I s.Buildings.length)],thH s e a m,by simp only[go_sem,c187L2b,thX,ZG,hf4,hS],rfl,rfl⟩
 rw[QE]at L;exact L
def ZqH(s:Sta)(e:Event)(a m:Int)(h:RqS s e m)(hl:s.Doors.length<=1000)(ho:∀x∈s.Doors,0<=x.Owner)(hd:(Zor s e).length<=100000):
 ∃fr' h',Zg rE [0,4,142,143,144] c187L3b [(0,.yld 4),(4,.ptr 3 0 0 1),(142,.isl false false 16<|s.Doors.map Door.enc),(143,I s.Doors.length),(144,.int .i64 0)] (thH s e a m)=some (if s.Doors.all (λx=>!ZoT (Zor s e) x||Zou s m x.Owner)=true then .exit 6 else .ret,fr',h')/\
  (s.Doors.all (λx=>!ZoT (Zor s e) x||Zou s m x.Owner)=true->fr'=[(0,.yld 4),(4,.ptr 3 0 0 1),(142,.isl false false 16<|s.Doors.map Door.enc),(143,I s.Doors.length),(144,I s.Doors.length)]/\h'=thH s e a m)/\(s.Doors.all (λx=>!ZoT (Zor s e) x||Zou s m x.Owner)=false->h'=thD s e a m):=by
 have hbl:=Zot s;have hcl:=Zow s;obtain⟨hf4,hf5⟩:=ZoI s e a m;have hS:∀n,Zd n ((Zor s e).map encS)=true:=λn=>ZN _<|Zw (λt=>rfl) _
 have L:=Jk (E:=rE) (live:=[0,4,142,143,144]) (b:=c187L3b) s.Doors (λ_ x=>!ZoT (Zor s e) x||Zou s m x.Owner) (λi=>[(0,.yld 4),(4,.ptr 3 0 0 1),(142,.isl false false 16<|s.Doors.map Door.enc),(143,I s.Doors.length),(144,I i)]) (λ_=>thH s e a m) 6
  (λfr h'=>fr=[(0,.yld 4),(4,.ptr 3 0 0 1),(142,.isl false false 16<|s.Doors.map Door.enc),(143,I s.Doors.length),(144,I s.Doors.length)]/\h'=thH s e a m) (λ_ h'=>h'=thD s e a m) (λi=>rfl)
  (λi x hx hP=>by
   have:=ZpV s e a m h i x hx hl (ho x<|ZSd hx) hd;rw[hP,cond_true]at this;exact⟨_,this,rfl⟩)
  (λi x hx hP=>by
   have:=ZpV s e a m h i x hx hl (ho x<|ZSd hx) hd;rw[hP,cond_false]at this;exact⟨_,_,this,rfl⟩)
  ⟨[(0,.yld 4),(4,.ptr 3 0 0 1),(142,.isl false false 16<|s.Doors.map Door.enc),(143,I s.Doors.length),(144,I s.Doors.length)],thH s e a m,by simp only[go_sem,c187L3b,thX,ZG,hf4,hS],rfl,rfl⟩
 rw[QE]at L;exact L
def owH(e:Event)(l:List Str):Hp:=[.row 1 [I 0],.row 1 [.clo (.func 186) [] [evI e]],.row 1<|l.map encS,.row 1 [.sl 2 l.length 0 l.length false]]
def Zpd(e:Event)(l:List Str)(x:Str)(hl:l.length<=1000000)(r:List AObj):appW (owH e l++r) true 1 16 (.sl 2 l.length 0 l.length false) (.isl false false 1 [.str x]) =
 some (.sl 2 (l.length+1) 0 (l.length+1) false,[.row 1 [I 0],.row 1 [.clo (.func 186) [] [evI e]],.row 1<|(l++[x]).map encS,.row 1 [.sl 2 l.length 0 l.length false]]++r):=by
 have:=XC (h:=owH e l++r) (fz:=true) (b:=2) (g:=l.length) (sz:=1) (bytes:=16) (es:=l.map encS) (bw:=false) (ex:=false) (ys:=[.str x]) (by
  show(bif (l.map encS).length==l.length then some (1,l.map encS)else none)=_
  rw[ZS4,beq_self_eq_true];rfl) rfl rfl (by decide) (by decide) (by simp;omega)
 rw[this,ZSm];rfl
def ZoU(e:Event)(n:Nat):bel n (evI e)=true:=by
 have hc:Z4 [evI e]=true:=by simp only[go_sem]
 have:=ZN (n:=n) [evI e] hc;unfold Zd at this;rw[ZS3]at this;exact this.1
def ZqI(s:Sta)(e:Event)(l:List Str)(hl:l.length+e.Lst.l.length<=100000):Zg rE [2,3,5,6,35,36,37] c104L0b [(2,.iptr false [ldI s]),(3,evI e),(5,.ptr 1 0 0 1),(6,.ptr 3 0 0 1),(35,.isl false e.Lst.ex 7<|e.Lst.l.map Ent.enc),(36,I e.Lst.l.length),(37,.int .i64 0)] (owH e l) =
 some (.exit 0,[(2,.iptr false [ldI s]),(3,evI e),(5,.ptr 1 0 0 1),(6,.ptr 3 0 0 1),(35,.isl false e.Lst.ex 7<|e.Lst.l.map Ent.enc),(36,I e.Lst.l.length),(37,I e.Lst.l.length)],owH e (l++e.Lst.l.map (·.Id))):=by
 have hbl:=Zot s;have hbe:=ZoU e;have hS:∀(D:List Str)n,Zd n (D.map encS)=true:=λD n=>ZN _<|Zw (λt=>rfl) _
 have L:=Y8 (E:=rE) (live:=[2,3,5,6,35,36,37]) (b:=c104L0b) e.Lst.l.length (λi=>[(2,.iptr false [ldI s]),(3,evI e),(5,.ptr 1 0 0 1),(6,.ptr 3 0 0 1),(35,.isl false e.Lst.ex 7<|e.Lst.l.map Ent.enc),(36,I e.Lst.l.length),(37,I i)])
  (λi=>owH e (l++(e.Lst.l.take i).map (·.Id))) (λi=>rfl)
  (λi hi=>by
   obtain⟨x,hx⟩:∃x,e.Lst.l[i]?=some x:=⟨_,ZS5 hi⟩;have hg:=Z6 (f:=Ent.enc) hx;have hi':=Zh hi;have hwr:=Zx (n:=i)<|by omega
   have htk:l++(e.Lst.l.take<|i+1).map (·.Id)=(l++(e.Lst.l.take i).map (·.Id))++[x.Id]:=by
    rw[ZT0,hx,ZSm,ZSQ];rfl
   have hlen:(l++(e.Lst.l.take i).map (·.Id)).length<=1000000:=by rw[ZSv,ZS4,ZSD];omega
   rw[htk];generalize l++(e.Lst.l.take i).map (·.Id)=D at*;have ha:=λq=>Zpd e D x.Id hlen [q]
   simp only[owH,ZS8,ZSa]at ha;have hl1:(D++[x.Id]).length=D.length+1:=by simp
   refine⟨[(2,.iptr false [ldI s]),(3,evI e),(5,.ptr 1 0 0 1),(6,.ptr 3 0 0 1),(35,.isl false e.Lst.ex 7<|e.Lst.l.map Ent.enc),(36,I e.Lst.l.length),(37,I (i+1:Nat))],?_,rfl⟩;unfold owH;rw[hl1];simp only[go_sem,c104L0b,hg,hi',hwr,ha,Ent.enc,hbe,hS])
  (e:=.exit 0) (fr:=[(2,.iptr false [ldI s]),(3,evI e),(5,.ptr 1 0 0 1),(6,.ptr 3 0 0 1),(35,.isl false e.Lst.ex 7<|e.Lst.l.map Ent.enc),(36,I e.Lst.l.length),(37,I e.Lst.l.length)]) (h:=owH e (l++e.Lst.l.map (·.Id))) (by
   rw[ZSt];simp only[go_sem,c104L0b,owH,ZG,hbe,hS]) (by simp)
 have e0:l++(e.Lst.l.take 0).map (·.Id)=l:=by simp
 rw[e0]at L;exact L
def ZqJ(s:Sta)(e:Event)(l:List Str)(hl:l.length+s.Units.length<=100000):Zg rE [2,3,5,6,54,55,56] c104L1b [(2,.iptr false [ldI s]),(3,evI e),(5,.ptr 1 0 0 1),(6,.ptr 3 0 0 1),(54,.isl false false 6<|s.Units.map Unit'.enc),(55,I s.Units.length),(56,.int .i64 0)] (owH e l) =
 some (.exit 2,[(2,.iptr false [ldI s]),(3,evI e),(5,.ptr 1 0 0 1),(6,.ptr 3 0 0 1),(54,.isl false false 6<|s.Units.map Unit'.enc),(55,I s.Units.length),(56,I s.Units.length)],owH e (l++(s.Units.filter<|λu=>Z3 u.Id e.Id).map (·.Door))):=by
 have hbl:=Zot s;have hbe:=ZoU e;have hS:∀(D:List Str)n,Zd n (D.map encS)=true:=λD n=>ZN _<|Zw (λt=>rfl) _
 have L:=Y8 (E:=rE) (live:=[2,3,5,6,54,55,56]) (b:=c104L1b) s.Units.length (λi=>[(2,.iptr false [ldI s]),(3,evI e),(5,.ptr 1 0 0 1),(6,.ptr 3 0 0 1),(54,.isl false false 6<|s.Units.map Unit'.enc),(55,I s.Units.length),(56,I i)])
  (λi=>owH e (l++((s.Units.take i).filter (λu=>Z3 u.Id e.Id)).map (·.Door))) (λi=>rfl)
  (λi hi=>by
   obtain⟨x,hx⟩:∃x,s.Units[i]?=some x:=⟨_,ZS5 hi⟩;have hg:=Z6 (f:=Unit'.enc) hx;have hi':=Zh hi;have hwr:=Zx (n:=i)<|by omega
   have htk:l++((s.Units.take<|i+1).filter (λu=>Z3 u.Id e.Id)).map (·.Door)=(l++((s.Units.take i).filter (λu=>Z3 u.Id e.Id)).map (·.Door))++bif Z3 x.Id e.Id then [x.Door]else []:=by
    rw[ZT0,hx,List.filter_append,ZSm,ZSQ];congr 2;show([x].filter _).map _=_
    cases hc:Z3 x.Id e.Id<;>simp[hc]
   have hlen:(l++((s.Units.take i).filter (λu=>Z3 u.Id e.Id)).map (·.Door)).length<=1000000:=by
    rw[ZSv,ZS4];have:=ZU0 (λu:Unit'=>Z3 u.Id e.Id)<|s.Units.take i
    rw[ZSD]at this;omega
   rw[htk];generalize l++((s.Units.take i).filter (λu=>Z3 u.Id e.Id)).map (·.Door)=D at*
   refine⟨[(2,.iptr false [ldI s]),(3,evI e),(5,.ptr 1 0 0 1),(6,.ptr 3 0 0 1),(54,.isl false false 6<|s.Units.map Unit'.enc),(55,I s.Units.length),(56,I (i+1:Nat))],?_,rfl⟩;cases c:Z3 x.Id e.Id with
   |false=>
    rw[cond_false,ZSf];simp only[go_sem,c104L1b,owH,hg,hi',hwr,Unit'.enc,c,hbe,hS]
   |true=>
    rw[cond_true];have ha:=λq=>Zpd e D x.Door hlen [q]
    simp only[owH,ZS8,ZSa]at ha;have hl1:(D++[x.Door]).length=D.length+1:=by simp
    unfold owH;rw[hl1];simp only[go_sem,c104L1b,hg,hi',hwr,ha,Unit'.enc,c,hbe,hS])
  (e:=.exit 2) (fr:=[(2,.iptr false [ldI s]),(3,evI e),(5,.ptr 1 0 0 1),(6,.ptr 3 0 0 1),(54,.isl false false 6<|s.Units.map Unit'.enc),(55,I s.Units.length),(56,I s.Units.length)]) (h:=owH e (l++(s.Units.filter<|λu=>Z3 u.Id e.Id).map (·.Door))) (by
   rw[ZSt];simp only[go_sem,c104L1b,owH,ZG,hbe,hS]) (by simp)
 have e0:l++((s.Units.take 0).filter (λu=>Z3 u.Id e.Id)).map (·.Door)=l:=by simp
 rw[e0]at L;exact L
def ZqK(l:List Str)(ex:Bool)(hl:l.length<=1000000)(h:Hp):fnV rE 51 [.isl false ex 1<|l.map encS] h=some (.sl h.length l.length 0 l.length false,h++[.row 1<|l.map encS]):=by
 have hble:Nat.ble l.length 1000000=true:=ZT1 hl;have hfit:(l.map encS).all (fits 1)=true:=by rw[ZTq,ZSj];intro x _;rfl
 rw[V8 (s:=J9) rfl];simp only[J9,Q2,Qq,hfit,ZS4,hble,beq_self_eq_true,ZSe,ZSB,cond_true]
def c104_eq:c104=.seq s104p0 (.seq s104p1<|.seq s104p2<|.seq s104p3<|.seq s104p4<|.seq s104p5<|.seq s104p6<|.seq s104p7 .ret):=rfl
def owG(s:Sta)(e:Event)(k:Nat)(b:Bool):Fr:=bif b then [(2,.iptr false [ldI s]),(3,evI e),(5,.ptr 1 0 0 1),(6,.ptr 3 0 0 1)]else [(2,.iptr false [ldI s]),(3,evI e),(5,.ptr 1 0 0 1),(6,.ptr 3 0 0 1),(k,.bool false)]
def ow1(e:Event)(l:List Str):List Str:=l++bif kOf [9,12] e then [e.Id]else []
def ow2(e:Event)(l:List Str):List Str:=l++bif kOf [7] e then [e.Other]else []
def ow3(e:Event)(l:List Str):List Str:=l++bif kOf [8] e then e.Lst.l.map (·.Id)else []
def ow4(s:Sta)(e:Event)(l:List Str):List Str:=l++bif kOf [12] e then(s.Units.filter<|λu=>Z3 u.Id e.Id).map (·.Door)else []
def ZpW(s:Sta)(e:Event):Zor s e=ow4 s e (ow3 e<|ow2 e<|ow1 e e.Ids.l):=rfl
def ZqL(s:Sta)(e:Event)(l:List Str)(b:Bool)(hl:l.length<=100000):Zb rE s104p3 (owG s e 0 b) (owH e l)=some (.normal,owG s e 17<|kOf [9,12] e,owH e<|ow1 e l):=by
 have hbl:=Zot s;have hbe:=ZoU e;have hS:∀(D:List Str)n,Zd n (D.map encS)=true:=λD n=>ZN _<|Zw (λt=>rfl) _
 have hk:=ZoJ e [9,12] false<|by decide
 simp only[ZS9,ZSq]at hk;unfold ow1;cases c:kOf [9,12] e with
 |false=>
  rw[c]at hk;rw[cond_false,ZSf];cases b<;>simp only[go_sem,s104p3,owG,cond_true,cond_false,owH,hk,hbe,hS]
 |true=>
  rw[c]at hk;rw[cond_true];have ha:=Zpd e l e.Id (by omega) []
  have hl1:(l++[e.Id]).length=l.length+1:=by simp
  unfold owH at ha⊢;rw[hl1];simp only[ZSf]at ha;cases b<;>simp only[go_sem,s104p3,owG,cond_true,cond_false,hk,ha,hbe,hS]
def ZqM(s:Sta)(e:Event)(l:List Str)(b:Bool)(hl:l.length<=100000):Zb rE s104p4 (owG s e 17 b) (owH e l)=some (.normal,owG s e 25<|kOf [7] e,owH e<|ow2 e l):=by
 have hbl:=Zot s;have hbe:=ZoU e;have hS:∀(D:List Str)n,Zd n (D.map encS)=true:=λD n=>ZN _<|Zw (λt=>rfl) _
 have hk:=ZoJ e [7] false<|by decide
 simp only[ZS9,ZSq]at hk;unfold ow2;cases c:kOf [7] e with
 |false=>
  rw[c]at hk;rw[cond_false,ZSf];cases b<;>simp only[go_sem,s104p4,owG,cond_true,cond_false,owH,hk,hbe,hS]
 |true=>
  rw[c]at hk;rw[cond_true];have ha:=Zpd e l e.Other (by omega) []
  have hl1:(l++[e.Other]).length=l.length+1:=by simp
  unfold owH at ha⊢;rw[hl1];simp only[ZSf]at ha;cases b<;>simp only[go_sem,s104p4,owG,cond_true,cond_false,hk,ha,hbe,hS]
def ZqN(s:Sta)(e:Event)(l:List Str)(b:Bool)(hl:l.length+e.Lst.l.length<=100000):Zb rE s104p5 (owG s e 25 b) (owH e l)=some (.normal,owG s e 33<|kOf [8] e,owH e<|ow3 e l):=by
 have hbl:=Zot s;have hbe:=ZoU e;have hS:∀(D:List Str)n,Zd n (D.map encS)=true:=λD n=>ZN _<|Zw (λt=>rfl) _
 have hE:∀n,Zd n (e.Lst.l.map Ent.enc)=true:=λn=>ZN _<|Zw (λt=>rfl) _
 have hk:=ZoJ e [8] false<|by decide
 simp only[ZS9,ZSq]at hk;unfold ow3;cases c:kOf [8] e with
 |false=>
  rw[c]at hk;rw[cond_false,ZSf];cases b<;>simp only[go_sem,s104p5,owG,cond_true,cond_false,owH,hk,hbe,hS]
 |true=>
  rw[c]at hk;rw[cond_true];have hL:=ZqI s e l hl;generalize l++e.Lst.l.map (·.Id)=D at*;unfold owH at hL⊢;cases b<;>simp only[go_sem,s104p5,c104L0,owG,cond_true,cond_false,hk,hL,hbe,hS]
def ZqO(s:Sta)(e:Event)(l:List Str)(b:Bool)(hl:l.length+s.Units.length<=100000):Zb rE s104p6 (owG s e 33 b) (owH e l)=some (.normal,owG s e 49<|kOf [12] e,owH e<|ow4 s e l):=by
 have hbl:=Zot s;have hbe:=ZoU e;have hS:∀(D:List Str)n,Zd n (D.map encS)=true:=λD n=>ZN _<|Zw (λt=>rfl) _
 have hE:∀n,Zd n (s.Units.map Unit'.enc)=true:=λn=>ZN _<|Zw (λt=>rfl) _
 have hk:=ZoJ e [12] false<|by decide
 simp only[ZS9,ZSq]at hk;unfold ow4;cases c:kOf [12] e with
 |false=>
  rw[c]at hk;rw[cond_false,ZSf];cases b<;>simp only[go_sem,s104p6,owG,cond_true,cond_false,owH,hk,hbe,hS]
 |true=>
  rw[c]at hk;rw[cond_true];have hL:=ZqJ s e l hl;generalize l++(s.Units.filter<|λu=>Z3 u.Id e.Id).map (·.Door)=D at*
  unfold owH at hL⊢;cases b<;>simp only[go_sem,s104p6,c104L1,owG,cond_true,cond_false,hk,hL,hbe,hS]
def ZqP(s:Sta)(e:Event)(hl:e.Ids.l.length<=1000000):Zb rE s104p2 [(2,.iptr false [ldI s]),(3,evI e),(5,.ptr 1 0 0 1)] [.row 1 [I 0],.row 1 [.clo (.func 186) [] [evI e]]]=some (.normal,owG s e 0 true,owH e e.Ids.l):=by
 have hC:=ZqK e.Ids.l e.Ids.ex hl [.row 1 [I 0],.row 1 [.clo (.func 186) [] [evI e]]];have hbl:=Zot s;have hbe:=ZoU e;have hS:∀(D:List Str)n,Zd n (D.map encS)=true:=λD n=>ZN _<|Zw (λt=>rfl) _
 unfold owH owG;simp only[go_sem,s104p2,cond_true,hC,hbe]
def ZpX(s:Sta)(e:Event)(h1:e.Ids.l.length<=1000)(h2:e.Lst.l.length<=1000)(h3:s.Units.length<=1000):(ow1 e e.Ids.l).length<=1001/\(ow2 e<|ow1 e e.Ids.l).length<=1002/\(ow3 e<|ow2 e<|ow1 e e.Ids.l).length<=2002/\(Zor s e).length<=3002:=by
 have a1:(ow1 e e.Ids.l).length<=1001:=by
  unfold ow1;cases kOf [9,12] e<;>simp<;>omega
 have a2:(ow2 e<|ow1 e e.Ids.l).length<=1002:=by
  unfold ow2;cases kOf [7] e<;>simp<;>omega
 have a3:(ow3 e<|ow2 e<|ow1 e e.Ids.l).length<=2002:=by
  rw[ow3];cases kOf [8] e<;>simp<;>omega
 refine⟨a1,a2,a3,?_⟩;rw[ZpW,ow4];have:=ZU0 (λu:Unit'=>Z3 u.Id e.Id) s.Units
 cases kOf [12] e<;>simp<;>omega
def ZqQ(s:Sta)(e:Event)(h1:e.Ids.l.length<=1000)(h2:e.Lst.l.length<=1000)(h3:s.Units.length<=1000):fnV rE 104 [ldI s,evA e] [.row 1 [I 0]]=some (.clo (.func 187) [] [.iptr false [ldI s],.ptr 1 0 0 1,evI e,.ptr 3 0 0 1],owH e<|Zor s e):=by
 obtain⟨a1,a2,a3,a4⟩:=ZpX s e h1 h2 h3;have q2:=ZqP s e<|by omega
 have q3:=ZqL s e e.Ids.l true<|by omega
 have q4:=ZqM s e (ow1 e e.Ids.l) (kOf [9,12] e)<|by omega
 have q5:=ZqN s e (ow2 e<|ow1 e e.Ids.l) (kOf [7] e)<|by omega
 have q6:=ZqO s e (ow3 e<|ow2 e<|ow1 e e.Ids.l) (kOf [8] e)<|by omega
 rw[<-ZpW]at q6;have hbl:=Zot s;have hcl:=Zow s;have hbe:=ZoU e;have hS:∀(D:List Str)n,Zd n (D.map encS)=true:=λD n=>ZN _<|Zw (λt=>rfl) _
 have q0:Zb rE s104p0 [(0,ldI s),(1,evA e)] [.row 1 [I 0]]=some (.normal,[(2,.iptr false [ldI s]),(3,evI e)],[.row 1 [I 0]]):=by
  simp only[go_sem,s104p0,hcl,hbe]
 have q1:Zb rE s104p1 [(2,.iptr false [ldI s]),(3,evI e)] [.row 1 [I 0]]=some (.normal,[(2,.iptr false [ldI s]),(3,evI e),(5,.ptr 1 0 0 1)],[.row 1 [I 0],.row 1 [.clo (.func 186) [] [evI e]]]):=by
  simp only[go_sem,s104p1,hbe]
 generalize Zor s e=D at*;have q7:∀b,∃fr,Zb rE s104p7 (owG s e 49 b) (owH e D)=some (.normal,fr,owH e D)/\get fr 4=.clo (.func 187) [] [.iptr false [ldI s],.ptr 1 0 0 1,evI e,.ptr 3 0 0 1]:=by
  intro b;cases b
  .exact⟨_,by simp only[go_sem,s104p7,owG,owH,cond_true,cond_false]<;>rfl,rfl⟩
  .exact⟨_,by simp only[go_sem,s104p7,owG,owH,cond_true,cond_false]<;>rfl,rfl⟩
 obtain⟨fr,q7,g7⟩:=q7<|kOf [12] e;rw[Q6 (f:=104) rfl rfl,c104_eq];simp only[go_sem,q0,q1,q2,q3,q4,q5,q6,q7,g7]
def ClS.str{s:Sta}(h:ClS s){x:Street}(hx:x∈s.Streets):0<=x.Owner/\x.Owner<=63:=by
 have:=h.prop.st x hx;unfold Vp at this;simp only[ZS3]at this;exact Zpa this.1
def ClS.bld{s:Sta}(h:ClS s){x:Building}(hx:x∈s.Buildings):0<=x.Owner/\x.Owner<=63:=by
 have:=h.prop.bu x hx;unfold Vq at this;simp only[ZS3]at this;exact Zpa this.1
def ClS.dor{s:Sta}(h:ClS s){x:Door}(hx:x∈s.Doors):0<=x.Owner/\x.Owner<=63:=by
 obtain⟨i,hi⟩:=ZUx hx;have:=h.prop.dr i x hi;unfold Vr at this;simp only[ZS3]at this;exact Zpa this.1
def ZqR(s:Sta)(e:Event)(a m:Int)(h:RqS s e m):
 rf rE (.clo (.func 187) [] [.iptr false [ldI s],.ptr 1 0 0 1,evI e,.ptr 3 0 0 1]) [13] c67R0a c67R0b (ZoA s e a m) (owH e<|Zor s e)=bif Zpb s e m
  then some (.normal,ZoA s e a m,thX s e a m 0 .exhausted .normal<|Zor s e)else some (.ret,ZoA s e a m,thX s e a m 18 .exhausted .ret<|Zor s e):=by
 have hz:=h.c.E.sizes;have hd:=(ZpX s e (by have:=h.ev.ids;omega) (by have:=h.ev.lst;omega) hz.units).2.2.2
 obtain⟨f1,h1,L1,A1,B1⟩:=ZqE s e a m h hz.regions<|λx hx=>(h.c.reg hx).1
 obtain⟨f2,h2,L2,A2,B2⟩:=ZqF s e a m h hz.streets<|λx hx=>(h.c.str hx).1
 obtain⟨f3,h3,L3,A3,B3⟩:=ZqG s e a m h hz.buildings<|λx hx=>(h.c.bld hx).1
 obtain⟨f4,h4,L4,A4,B4⟩:=ZqH s e a m h hz.doors (λx hx=>(h.c.dor hx).1)<|by omega
 have hbl:=Zot s;have hcl:=Zow s;obtain⟨hf4,hf5⟩:=ZoI s e a m;have hS:∀n,Zd n ((Zor s e).map encS)=true:=λn=>ZN _<|Zw (λt=>rfl) _
 unfold Zpb;rw[Z1k (c:=c187) rfl];cases c1:s.Regions.all (λx=>!ZoQ e x||Zou s m x.Owner)with
 |false=>
  have e1:=B1 c1;subst e1;rw[c1]at L1;simp only[thX,ZSi,if_false]at L1;rw[ZSo,cond_false];simp only[go_sem,c187,c187L0,owH,thX,ZS8,ZSa,L1,hf4,hS];rfl
 |true=>
 obtain⟨e1,e1'⟩:=A1 c1;subst e1;subst e1';rw[c1]at L1;simp only[thX,if_true]at L1;cases c2:s.Streets.all (λx=>!ZoR e x||Zou s m x.Owner)with
 |false=>
  have e1:=B2 c2;subst e1;rw[c2]at L2;simp only[thX,ZSi,if_false]at L2;rw[ZSc,ZSo,cond_false];simp only[go_sem,c187,c187L0,c187L1,owH,thX,ZS8,ZSa,L1,L2,hf4,hS];rfl
 |true=>
 obtain⟨e1,e1'⟩:=A2 c2;subst e1;subst e1';rw[c2]at L2;simp only[thX,if_true]at L2;cases c5003:s.Buildings.all (λx=>!ZoS e x||Zou s m x.Owner)with
 |false=>
  have e1:=B3 c5003;subst e1;rw[c5003]at L3;simp only[thX,ZSi,if_false]at L3;rw[ZSc,ZSc,ZSo,cond_false];simp only[go_sem,c187,c187L0,c187L1,c187L2,owH,thX,ZS8,ZSa,L1,L2,L3,hf4,hS];rfl
 |true=>
 obtain⟨e1,e1'⟩:=A3 c5003;subst e1;subst e1';rw[c5003]at L3;simp only[thX,if_true]at L3;cases c5004:s.Doors.all (λx=>!ZoT (Zor s e) x||Zou s m x.Owner)with
 |false=>
  have e1:=B4 c5004;subst e1;rw[c5004]at L4;simp only[thX,ZSi,if_false]at L4;rw[ZSc,ZSc,ZSc,cond_false];simp only[go_sem,c187,c187L0,c187L1,c187L2,c187L3,owH,thX,ZS8,ZSa,L1,L2,L3,L4,hf4,hS];rfl
 |true=>
 obtain⟨e1,e1'⟩:=A4 c5004;subst e1;subst e1';rw[c5004]at L4;simp only[thX,if_true]at L4;rw[ZSc,ZSc,ZSc,cond_true];simp only[go_sem,c187,c187L0,c187L1,c187L2,c187L3,owH,thX,ZS8,ZSa,L1,L2,L3,L4,hf4,hS];rfl
def ZqS(s:Sta)(e:Event)(a m:Int)(h:RqS s e m):pfn rE 67 [rqI s e a m]=some (I<|Zp6 s e m):=by
 have hrf:=ZqR s e a m h;have hO:=ZqQ s e (by have:=h.ev.ids;omega) (by have:=h.ev.lst;omega) h.c.E.sizes.units
 have hcl:=Zow s;have hbl:=Zot s;have hS:∀n,Zd n ((Zor s e).map encS)=true:=λn=>ZN _<|Zw (λt=>rfl) _
 obtain⟨hf4,hf5⟩:=ZoI s e a m;generalize Zor s e=D at*;unfold Zp6;rw[Z5 (f:=67) rfl rfl];unfold owH at hrf hO;cases c:Zpb s e m with
 |true=>
  rw[c,cond_true]at hrf;simp only[ZoA]at hrf;simp only[go_sem,c67,hO,Sr,hrf,hS,thX,ZoA]
 |false=>
  rw[c,cond_false]at hrf;simp only[ZoA]at hrf;simp only[go_sem,c67,hO,Sr,hrf,hS,thX,ZoA]
def Zpf{a:Int}(h:Zoz a=true):0<=a/\a<=63:=by
 unfold Zoz at h;simpa using h
def cvV:List (Nat×Int)->Int
 |[]=>0
 |x::l=>bif x.2==0 then cvV l else x.2
abbrev cvF(R:AV)(L:List<|Nat×Int)(i:Nat):Fr:=[(46,.isl false false 1<|L.map λx=>.clo (.func x.1) [R] []),(47,I L.length),(48,I i)]
def ZpY(R:AV)(hc:clean R=true)(L:List<|Nat×Int)(hl:L.length<=1000)(hp:∀x∈L,pfn rE x.1 [R]=some (I x.2)):∀(k i:Nat),i+k=L.length->
 ∃fr',Zg rE [46,47,48] c37L0b (cvF R L i) []=some (bif cvV (L.drop i)==0 then .exit 0 else .ret,fr',[])/\(cvV (L.drop i)≠0->get fr' 6=I (cvV<|L.drop i))
 |0,i,hk=>by
  have hi:i=L.length:=by omega
  subst hi;refine⟨_,Q7 rfl (e:=.exit 0) (by simp only[go_sem,c37L0b,ZG]<;>rfl) (by simp) |>.trans (by rw[List.drop_length];rfl),?_⟩
  rw[List.drop_length];exact λh=>absurd rfl h
 |k+1,i,hk=>by
  obtain⟨x,hx⟩:∃x,L[i]?=some x:=⟨_,ZS5<|by omega⟩
  have hg:=Z6 (f:=λx:Nat×Int=>AV.clo (.func x.1) [R] []) hx
  have hi':=Zh<|Z7 hx;have hwr:=Zx (n:=i) (by have:=Z7 hx;omega)
  have hy:=hp x<|ZSd hx;have hd:L.drop i=x::L.drop (i+1):=by
   have h1:=ZTe<|Z7 hx;rw[h1];congr 1;have:=ZS5<|Z7 hx;rw[this]at hx;exact Option.some.inj hx
  rw[hd,cvV];cases c:x.2==0 with
  |true=>
   have hn:(x.2 != 0)=false:=by rw[bne,c];rfl
   obtain⟨fr',h1,h2⟩:=ZpY R hc L hl hp k (i+1)<|by omega
   refine⟨fr',?_,h2⟩;rw[cond_true,Yt rfl (fr':=(6,.bot)::cvF R L (i+1)) (h':=[]) (by
    simp only[go_sem,c37L0b,hg,hi',hwr,hy,hn,hc])]
   exact h1
  |false=>
   have hn:(x.2 != 0)=true:=by rw[bne,c];rfl
   rw[cond_false,c,cond_false];refine⟨_,Q7 rfl (e:=.ret) (fr':=[(6,I x.2),(46,.isl false false 1<|L.map λx=>.clo (.func x.1) [R] []),(47,I L.length),(48,I i)]) (by
    simp only[go_sem,c37L0b,hg,hi',hy,hn,hc]) (by simp),λ_=>rfl⟩
def ZoN(s:Sta)(a:Int)(e:Event):Int:=bif !Jx s||(!Zoz a||!Q9 e)then 1 else
 cvV [(66,Zp0 s e a<|Zoq s a),(67,Zp6 s e<|Zoq s a),(68,Zp5 s e<|Zoq s a),(69,Zp1 s e a<|Zoq s a)]
def Zpq(s:Sta)(hE:StE s)(a:Int)(e:Event)(hv:EvS e):pfn rE 37 [stA s,I a,evA e]=some (I<|ZoN s a e):=by
 have hO:=Zp7 s hE;have hA:=Zp8 a;have hF:=NH e hv;have hcl:=Zow s;have hbl:=Zot s;unfold ZoN;rw[Z5 (f:=37) rfl rfl];cases c:Jx s with
 |false=>
  rw[c]at hO;simp only[go_sem,c37,hO,ZSs,ZSe]
 |true=>
 rw[c]at hO;cases c1:Zoz a with
 |false=>
  rw[c1]at hA;simp only[go_sem,c37,hO,hA,ZSs,ZSe,ZSn,ZSl]
 |true=>
 rw[c1]at hA;cases c2:Q9 e with
 |false=>
  rw[c2]at hF;simp only[go_sem,c37,hO,hA,hF,ZSs,ZSn,ZSl]
 |true=>
 rw[c2]at hF;have h:ClS s:=⟨hE,c⟩;have m1:=h.mst (Zpf c1).1;have hr:0<=Zoq s a/\Zoq s a<=63:=ZpH h.prop.pa<|Zpf c1;have hq:RqS s e (Zoq s a):=⟨h,hv,c2,hr⟩;generalize Zoq s a=m at*;have hR:clean (rqI s e a m)=true:=by simp only[go_sem]
 obtain⟨fr',L1,L2⟩:=ZpY (rqI s e a m) hR [(66,Zp0 s e a m),(67,Zp6 s e m),(68,Zp5 s e m),(69,Zp1 s e a m)] (by simp) (by
  intro x hx;simp only[ZSA,ZUa,or_false]at hx;rcases hx with rfl|rfl|rfl|rfl
  .exact Zqw s e a m hq
  .exact ZqS s e a m hq
  .exact Zqy s e a m hq
  .exact ZqD s e a m hq) 4 0 rfl
 rw[ZSr]at L1 L2;generalize cvV [(66,Zp0 s e a m),(67,Zp6 s e m),(68,Zp5 s e m),(69,Zp1 s e a m)]=v at*;have hbR:∀n,bel n (rqI s e a m)=true:=λn=>by
  have:=ZN (n:=n) [rqI s e a m]<|by simp only[Z4,hR,ZSB]
  simpa only[Zd,ZSB]using this
 replace L1:Zg rE [46,47,48] c37L0b [(46,.isl false false 1 [.clo (.func 66) [rqI s e a m] [],.clo (.func 67) [rqI s e a m] [],.clo (.func 68) [rqI s e a m] [],.clo (.func 69) [rqI s e a m] []]),(47,.int .i64 ((4:Nat):Int)),(48,.int .i64 0)] []=some (bif v==0 then .exit 0 else .ret,fr',[]):=L1
 cases c5003:v==0 with
 |true=>
  have hv0:v=0:=by simpa using c5003
  subst hv0;rw[c5003,cond_true]at L1;simp only[go_sem,c37,c37L0,hO,hA,hF,m1,hcl,L1,ZSn,ZSl]
 |false=>
  have hv0:v≠0:=by simpa using c5003
  have g:=L2 hv0;rw[c5003,cond_false]at L1;simp only[go_sem,c37,c37L0,hO,hA,hF,m1,hcl,L1,g,ZSn,ZSl]
def Zvw(s:Sta)(a:Int)(e:Event):Int:=bif ZoN s a e==0 then Qk s a e else ZoN s a e
def Zvx(s:Sta)(a:Int)(e:Event):Sta:=bif ZoN s a e==0&&Qk s a e==0 then ZP s a e else s
def Zvi(l:List Ver)(st:Sta×List Int)(p:Nat×Nat):Sta×List Int:=match l[p.1]? with
 |some v=>(match v.Events.l[p.2]? with
  |some e=>(Zvx st.1 v.Authority e,st.2++[Zvw st.1 v.Authority e])
  |none=>st)
 |none=>st
def Zr5(l:List Ver)(valid known:Int):Sta×List Int:=(Zr3 l valid known).foldl (Zvi l) (Yh,[])
def ZyC{l:List Ver}{p:Nat×Nat}{v:Ver}{e:Event}(h1:l[p.1]?=some v)(h2:v.Events.l[p.2]?=some e)(st:Sta×List Int):Zvi l st p=(Zvx st.1 v.Authority e,st.2++[Zvw st.1 v.Authority e]):=by
 unfold Zvi;rw[h1];simp only[h2]
def ZeI{e:Event}(h:Xn e=true):∀x∈e.Lst.l,x.Id.size<=1000:=by
 simp only[Xn,ZS3]at h;obtain⟨h1,_,_,_,_,_,h6⟩:=h;have k6:=of_decide_eq_true h6;unfold FT at h1;rw[ZSk<|by omega]at h1
 intro x hx;have:=ZSj.1 h1 x hx;unfold M2 at this;simp[ZU]at this;omega
structure VsF(V:NL Ver):Prop where
 s:VsS V
 few:∀v∈V.l,∀e∈v.Events.l,Xn e=true
structure StN(n:Nat)(s:Sta):Prop where
 e:StE s
 regions:s.Regions.length<=10*n
 streets:s.Streets.length<=10*n
 buildings:s.Buildings.length<=10*n
 doors:s.Doors.length<=10*n
 units:s.Units.length<=10*n
 merged:s.Merged.length<=10*n
 rulings:s.Rulings.length<=10*n
def StN.f{n:Nat}{s:Sta}(h:StN n s)(hn:n<=50):StF s:=by
 obtain⟨a,b1,b2,b3,b4,b5,b6,b7⟩:=h;exact⟨a,by omega,by omega,by omega,by omega,by omega,by omega,by omega⟩
def Zx2:StE Yh:=by
 refine⟨⟨ZS7 _,ZS7 _,ZS7 _,ZS7 _,ZS7 _,ZS7 _,ZS7 _⟩,?_,?_,?_,?_,?_⟩
 all_goals (intro x hx;cases hx)
def StN.zero(n:Nat):StN n Yh:=⟨Zx2,ZS7 _,ZS7 _,ZS7 _,ZS7 _,ZS7 _,ZS7 _,ZS7 _⟩
def StN.mono{n m:Nat}{s:Sta}(h:StN n s)(hm:n<=m):StN m s:=by
 obtain⟨a,b1,b2,b3,b4,b5,b6,b7⟩:=h;exact⟨a,by omega,by omega,by omega,by omega,by omega,by omega,by omega⟩
def StN.apply{n:Nat}{s:Sta}(h:StN n s)(hn:n<=50)(a:Int){e:Event}(he:Xn e=true):StN (n+1) (ZP s a e):=by
 have hE:=ZeH s (h.f hn) a e (JL e he)<|ZeI he;have key:∀t:Sta,t=ZP s a e->(t.Regions.length<=10*(n+1)/\t.Streets.length<=10*(n+1)/\t.Buildings.length<=10*(n+1)/\t.Doors.length<=10*(n+1)/\t.Units.length<=10*(n+1)/\t.Merged.length<=10*(n+1)/\t.Rulings.length<=10*(n+1)):=by
  intro t ht;unfold ZP at ht;cases c:okB s a e&&(Q1 (wk0 s a e)==0&&Wh (stepW<|wk0 s a e).s.Doors)with
  |true=>
   rw[c,cond_true]at ht;subst ht;obtain⟨h1,h2,h3,h4,h5,h6,h7⟩:=Z4u (wk0 s a e) (JL e he).lst;have e0:(wk0 s a e).s=s:=rfl;rw[e0]at h1 h2 h3 h4 h5 h6 h7;obtain⟨_,b1,b2,b3,b4,b5,b6,b7⟩:=h;exact⟨by omega,by omega,by omega,by omega,by omega,by omega,by omega⟩
  |false=>
   rw[c,cond_false]at ht;subst ht;exact⟨ZS7 _,ZS7 _,ZS7 _,ZS7 _,ZS7 _,ZS7 _,ZS7 _⟩
 obtain⟨k1,k2,k3,k4,k5,k6,k7⟩:=key _ rfl;exact⟨hE,k1,k2,k3,k4,k5,k6,k7⟩
def StN.sta{n:Nat}{s:Sta}(h:StN n s)(hn:n<=50)(a:Int){e:Event}(he:Xn e=true):StN (n+1) (Zvx s a e):=by
 unfold Zvx;cases ZoN s a e==0&&Qk s a e==0 with
 |true=>exact h.apply hn a he
 |false=>exact h.mono<|ZTb _
def ZyD{V:NL Ver}(hV:VsF V){p:Nat×Nat}{v:Ver}{e:Event}(h1:V.l[p.1]?=some v)(h2:v.Events.l[p.2]?=some e):Xn e=true:=hV.few v (ZSd h1) e<|ZSd h2
def ZsZ(s:Sta):Z4 [stA s]=true:=by
 have h1:Z4 (s.Regions.map Region.enc)=true:=Zw (λt=>rfl) _
 have h2:Z4 (s.Streets.map Street.enc)=true:=Zw (λt=>rfl) _
 have h3:Z4 (s.Buildings.map Building.enc)=true:=Zw (λt=>rfl) _
 have h4:Z4 (s.Doors.map Door.enc)=true:=Zw (λt=>rfl) _
 have h5:Z4 (s.Units.map Unit'.enc)=true:=Zw (λt=>rfl) _
 have h6:Z4 (s.Merged.map Pair.enc)=true:=Zw (λt=>rfl) _
 have h7:Z4 (s.Rulings.map Pair.enc)=true:=Zw (λt=>rfl) _
 simp only[go_sem]
def Zwd(l:List Ver)(valid known:Int):∀p∈Zr3 l valid known,InL l p:=λp hp=>ZyB l valid known _ p<|(Zwc l _).mem_iff.1 hp
def HK(a b:List Str):Bool:=a.length==b.length&&Zu (λi x=>match b[i]? with|some y=>Z3 x y|none=>false) 0 a
def Z4L(ea eb:Bool)(a b:List Str)(ha:a.length<=1000):pfn rE 56 [.isl false ea 1<|a.map encS,.isl false eb 1<|b.map encS]=some (.bool<|HK a b):=by
 rw[Z5 (f:=56) rfl rfl];unfold HK;have hne:((a.length:Int) != (b.length:Int)) = !(a.length==b.length):=by
  cases h:a.length==b.length with
  |true=>have:a.length=b.length:=by simpa using h
         rw[this];simp
  |false=>have:a.length≠b.length:=by simpa using h
          simp;omega
 cases c:a.length==b.length with
 |false=>
  rw[c]at hne;simp only[go_sem,c56,hne]
 |true=>
 rw[c]at hne;have hlen:a.length=b.length:=by simpa using c
 have L:=QT (E:=rE) (live:=[0,1,5]) (b:=c56L0b) (h:=[]) a (λi x=>match b[i]? with|some y=>Z3 x y|none=>false) (λi=>[(0,.isl false ea 1<|a.map encS),(1,.isl false eb 1<|b.map encS),(5,I i)]) 0 (λfr=>get fr 4=.bot) (λfr=>get fr 4=.bool false) (λi=>rfl)
  (λi x hx hP=>by
   have hg:=Z6 (f:=encS) hx;have hi:=Zh<|Z7 hx;have hw:=Zx (n:=i) (by have:=Z7 hx;omega)
   obtain⟨y,hy⟩:∃y,b[i]?=some y:=⟨_,ZS5<|by rw[<-hlen];exact Z7 hx⟩
   have hgy:=Z6 (f:=encS) hy;rw[hy]at hP;dsimp only at hP;refine⟨_,by simp only[go_sem,c56L0b,hg,hgy,hi,hw,encS,hP];rfl,?_⟩
   simp only[go_sem])
  (λi x hx hP=>by
   have hg:=Z6 (f:=encS) hx;have hi:=Zh<|Z7 hx;obtain⟨y,hy⟩:∃y,b[i]?=some y:=⟨_,ZS5<|by rw[<-hlen];exact Z7 hx⟩
   have hgy:=Z6 (f:=encS) hy;rw[hy]at hP;dsimp only at hP;refine⟨_,by simp only[go_sem,c56L0b,hg,hgy,hi,encS,hP];rfl,?_⟩
   simp only[go_sem])
  (⟨_,by simp only[go_sem,c56L0b,ZG];rfl,by simp only[go_sem]⟩)
 obtain⟨fr',h1,h2,h3⟩:=L;have h1':Zg rE [0,1,5] c56L0b [(0,.isl false ea 1<|a.map encS),(1,.isl false eb 1<|b.map encS),(5,.int .i64 0)] []=_:=h1;cases e:Zu (λi x=>match b[i]? with|some y=>Z3 x y|none=>false) 0 a with
 |true=>
  rw[e]at h1';simp only[go_sem,c56,c56L0,hne,h1',h2 e,if_true]
 |false=>
  rw[e]at h1';simp only[go_sem,c56,c56L0,hne,h1',h3 e,ZSi]
def FU(a b:Door):Bool:=((((!Z3 a.Id b.Id||!Z3 a.Building b.Building)||!Z3 a.Street b.Street)||a.Owner != b.Owner)||!QL a.Number b.Number)||!QK a.Point b.Point
def HL(a b:Door):Bool:=!FU a b&&(((((a.From==b.From&&a.Ended==b.Ended)&&HK a.After.l b.After.l)&&a.Why==b.Why)&&a.Office==b.Office)&&Z3 a.Veil b.Veil)
def Z4M(a b:Door)(ha:a.After.l.length<=1000):pfn rE 28 [a.enc,b.enc]=some (.bool<|HL a b):=by
 have hT:=Z4L a.After.ex b.After.ex a.After.l b.After.l ha;have hn:(a.Number.N==b.Number.N&&(Z3 a.Number.Letter b.Number.Letter&&(a.Number.Num==b.Number.Num&&a.Number.Den==b.Number.Den)))=QL a.Number b.Number:=rfl;have hp:(a.Point.X==b.Point.X&&a.Point.Y==b.Point.Y)=QK a.Point b.Point:=rfl;rw[Z5 (f:=28) rfl rfl];unfold HL FU;cases c0:Z3 a.Id b.Id with
 |false=>simp only[go_sem,c28,Door.enc,NL.enc,c0,ZSe]
 |true=>
 cases c1:Z3 a.Building b.Building with
 |false=>simp only[go_sem,c28,Door.enc,NL.enc,c0,c1,ZSe,ZSl]
 |true=>
 cases c2:Z3 a.Street b.Street with
 |false=>simp only[go_sem,c28,Door.enc,NL.enc,c0,c1,c2,ZSe,ZSl]
 |true=>
 cases c5003:a.Owner != b.Owner with
 |true=>simp only[go_sem,c28,Door.enc,NL.enc,c0,c1,c2,c5003,ZSe,ZSl]
 |false=>
 cases c5004:QL a.Number b.Number with
 |false=>simp only[go_sem,c28,Door.enc,NL.enc,c0,c1,c2,c5003,hn,c5004,ZSe,ZSl]
 |true=>
 cases c5005:QK a.Point b.Point with
 |false=>simp only[go_sem,c28,Door.enc,NL.enc,c0,c1,c2,c5003,hn,c5004,hp,c5005,ZSe,ZSl]
 |true=>
 cases c5006:a.From==b.From with
 |false=>simp only[go_sem,c28,Door.enc,NL.enc,c0,c1,c2,c5003,hn,c5004,hp,c5005,c5006,ZSe,ZSl]
 |true=>
 cases c5007:a.Ended==b.Ended with
 |false=>simp only[go_sem,c28,Door.enc,NL.enc,c0,c1,c2,c5003,hn,c5004,hp,c5005,c5006,c5007,ZSe,ZSl]
 |true=>
 cases c5008:HK a.After.l b.After.l with
 |false=>rw[c5008]at hT;simp only[go_sem,c28,Door.enc,NL.enc,c0,c1,c2,c5003,hn,c5004,hp,c5005,c5006,c5007,hT,ZSe,ZSl]
 |true=>
 rw[c5008]at hT;cases c5009:a.Why==b.Why with
 |false=>simp only[go_sem,c28,Door.enc,NL.enc,c0,c1,c2,c5003,hn,c5004,hp,c5005,c5006,c5007,hT,c5009,ZSe,ZSl]
 |true=>
 cases c5010:a.Office==b.Office with
 |false=>simp only[go_sem,c28,Door.enc,NL.enc,c0,c1,c2,c5003,hn,c5004,hp,c5005,c5006,c5007,hT,c5009,c5010,ZSe,ZSl]
 |true=>simp only[go_sem,c28,Door.enc,NL.enc,c0,c1,c2,c5003,hn,c5004,hp,c5005,c5006,c5007,hT,c5009,c5010,ZSe,ZSl]
def zEv:Event:=⟨0,0,0,0,0,emp,emp,emp,⟨false,[]⟩,⟨false,[]⟩,⟨0,emp,0,0⟩,⟨0,0⟩,⟨false,[]⟩,⟨false,[]⟩⟩
def Zad(x:Str):Z3 x x=true:=by unfold Z3;exact beq_self_eq_true _
def ZaX(l:List Str):HK l l=true:=by
 unfold HK;rw[beq_self_eq_true,ZSc];have:∀(m:List Str)(i:Nat),(∀j x,m[j]?=some x->l[i+j]?=some x)->Zu (λi x=>match l[i]? with|some y=>Z3 x y|none=>false) i m=true:=by
  intro m;induction m with
  |nil=>intro i h;rfl
  |cons x r ih=>
   intro i h;have h0:=h 0 x rfl;rw[ZSH]at h0;unfold Zu;rw[h0];simp only[Zad,ZSc];exact ih (i+1)<|λj y hy=>by rw[ZTf,Nat.add_comm 1 j];exact h (j+1) y hy
 exact this l 0<|λj x h=>by rw[ZSh];exact h
def ZbL(ex:Bool)(l:List Pair)(hl:l.length<=1000):pfn rE 29 [.isl false ex 2<|l.map Pair.enc,.isl false ex 2<|l.map Pair.enc]=some (.bool true):=by
 rw[Z5 (f:=29) rfl rfl];have L:=Y8 (E:=rE) (live:=[0,1,5]) (b:=c29L0b) l.length (λi=>[(0,.isl false ex 2<|l.map Pair.enc),(1,.isl false ex 2<|l.map Pair.enc),(5,I i)]) (λi=>[]) (λi=>rfl)
  (λi hi=>by
   obtain⟨x,hx⟩:∃x,l[i]?=some x:=⟨_,ZS5 hi⟩;have hg:=Z6 (f:=Pair.enc) hx;have hi':=Zh hi;have hwr:=Zx (n:=i)<|by omega
   refine⟨[(0,.isl false ex 2<|l.map Pair.enc),(1,.isl false ex 2<|l.map Pair.enc),(4,.bot),(5,I (i+1:Nat))],?_,rfl⟩;simp only[go_sem,c29L0b,hg,hi',hwr,Pair.enc,beq_self_eq_true])
  (e:=.exit 0) (fr:=[(0,.isl false ex 2<|l.map Pair.enc),(1,.isl false ex 2<|l.map Pair.enc),(4,.bot),(5,I l.length)]) (h:=[]) (by simp only[go_sem,c29L0b,ZG]) (by simp)
 have hne:((l.length:Int) != (l.length:Int))=false:=by simp
 have L':Zg rE [0,1,5] c29L0b [(0,.isl false ex 2<|l.map Pair.enc),(1,.isl false ex 2<|l.map Pair.enc),(5,.int .i64 0)] []=_:=L;simp only[go_sem,c29,c29L0,L',hne]
def Zr8(l:List Ver)(i:Nat):Nat:=((l.take i).map (λv=>v.Events.l.length)).sum
def Zwe{l:List Ver}{i:Nat}{v:Ver}(h:l[i]?=some v):Zr8 l (i+1)=Zr8 l i+v.Events.l.length:=by
 unfold Zr8;rw[ZT0,h];simp
def Zx4{l:List Ver}(h:∀v∈l,v.Events.l.length<=140737488355328):∀i,Zr8 l i<=i*140737488355328
 |0=>by simp[Zr8]
 |i+1=>by
  have ih:=Zx4 h i;rw[ZSX];cases hv:l[i]? with
  |none=>
   have:Zr8 l (i+1)=Zr8 l i:=by unfold Zr8;rw[ZT0,hv];simp
   omega
  |some v=>
   have h1:=Zwe hv;have h2:=h v<|ZSd hv;omega
def ZvP(l:List Ver)(most:Int)(i:Nat)(v:Ver):Bool:=!decide (((Zr8 l (i+1):Nat):Int)>most)&&v.Events.l.all Xn
def ZvT(l:List Ver)(most:Int):Bool:=Zu (ZvP l most) 0 (l.take 20)&&decide ((l.length:Int)<=20)
def ZyG(V:NL Ver)(most:Int)(n:Nat)(v:Ver)(i:Nat)(hv:V.l[i]?=some v)(hl:v.Events.l.length<=140737488355328):
 ∃fr',Zg rE [0,1,5,6,7] c20L0b [(0,vsA false V),(1,I most),(5,I n),(6,I i),(7,.int .i64 0)] []=some (if v.Events.l.all Xn=true then .exit 2 else .ret,fr',[])/\(v.Events.l.all Xn=true->Z2 [0,1,4,5,6] fr'=[(0,vsA false V),(1,I most),(4,.bot),(5,I n),(6,I i)])/\(v.Events.l.all Xn=false->get fr' 4=.bool false):=by
 have hg1:=Z6 (f:=Ver.enc) hv;have hev:v.enc=.agg [I v.Authority,I v.Number,I v.At,.str v.Prev,.isl false v.Events.ex 18<|v.Events.l.map λe=>evA e,I v.Index,.isl false v.Sig.ex 1<|v.Sig.l.map encS,.isl false v.Path.ex 1<|v.Path.l.map encS]:=rfl
 rw[hev]at hg1;have L:=QT (E:=rE) (live:=[0,1,5,6,7]) (b:=c20L0b) (h:=[]) v.Events.l (λ_ e=>Xn e) (λk=>[(0,vsA false V),(1,I most),(5,I n),(6,I i),(7,I k)]) 2 (λfr=>Z2 [0,1,4,5,6] fr=[(0,vsA false V),(1,I most),(4,.bot),(5,I n),(6,I i)]) (λfr=>get fr 4=.bool false) (λk=>rfl)
  (λk e he hP=>by
   have hg2:=Z6 (f:=λe=>evA e) he
   have hi':=Zh<|Z7 he;have hwr:=Zx (n:=k) (by have:=Z7 he;omega)
   have hF:=Z4z e;rw[hP]at hF;refine⟨_,by simp only[go_sem,c20L0b,hg1,hg2,hi',hwr,hF];rfl,?_⟩
   simp only[go_sem])
  (λk e he hP=>by
   have hg2:=Z6 (f:=λe=>evA e) he
   have hi':=Zh<|Z7 he;have hF:=Z4z e;rw[hP]at hF;refine⟨_,by simp only[go_sem,c20L0b,hg1,hg2,hi',hF];rfl,?_⟩
   simp only[go_sem])
  ⟨_,by simp only[go_sem,c20L0b,hg1,ZG];rfl,by simp only[go_sem]⟩
 rw[QE]at L;exact L
def ZAm(V:NL Ver)(most:Int)(hm:∀v∈V.l,v.Events.l.length<=140737488355328):pfn rE 20 [vsA false V,I most]=some (.bool<|ZvT V.l most):=by
 have L:=QT (E:=rE) (live:=[0,1,5,6]) (b:=c20L1b) (h:=[]) (V.l.take 20) (ZvP V.l most) (λi=>[(0,vsA false V),(1,I most),(5,I<|Zr8 V.l i),(6,I i)]) 0 (λfr=>get fr 0=vsA false V) (λfr=>get fr 4=.bool false) (λi=>rfl)
  (λi v hx hP=>by
   obtain⟨hv,hi20⟩:V.l[i]?=some v/\i<20:=by
    have h1:=Z7 hx;rw[ZSD]at h1;rw[ZT3<|by omega]at hx
    exact⟨hx,by omega⟩
   have hlt:=Z7 hv;have hi':=Zh hlt;have h20:decide ((i:Int)<20)=true:=decide_eq_true<|by omega
   have hwr:=Zx (n:=i)<|by omega
   have hs:=Zwe hv;have hle:=Zx4 hm<|i+1;have hm1:=hm v<|ZSd hv;have hw2:IntKind.i64.wrap (((Zr8 V.l i:Nat):Int)+((v.Events.l.length:Nat):Int))=((Zr8 V.l (i+1):Nat):Int):=by
    rw[YM (by omega)<|by omega];omega
   have hg1:=Z6 (f:=Ver.enc) hv;have hev:v.enc=.agg [I v.Authority,I v.Number,I v.At,.str v.Prev,.isl false v.Events.ex 18<|v.Events.l.map λe=>evA e,I v.Index,.isl false v.Sig.ex 1<|v.Sig.l.map encS,.isl false v.Path.ex 1<|v.Path.l.map encS]:=rfl
   rw[hev]at hg1;unfold ZvP at hP;rw[ZS3]at hP;have hd:decide (((Zr8 V.l (i+1):Nat):Int)>most)=false:=by simpa using hP.1
   obtain⟨fr',L0,h1,_⟩:=ZyG V most (Zr8 V.l<|i+1) v i hv hm1;rw[if_pos hP.2]at L0;have h1':=h1 hP.2;have L0':Zg rE [0,1,5,6,7] c20L0b [(0,vsA false V),(1,I most),(5,I<|Zr8 V.l<|i+1),(6,I i),(7,.int .i64 0)] []=_:=L0;refine⟨_,by simp only[go_sem,c20L1b,c20L0,hg1,hi',h20,hwr,hw2,hd,L0',h1'];rfl,?_⟩
   simp only[go_sem])
  (λi v hx hP=>by
   obtain⟨hv,hi20⟩:V.l[i]?=some v/\i<20:=by
    have h1:=Z7 hx;rw[ZSD]at h1;rw[ZT3<|by omega]at hx
    exact⟨hx,by omega⟩
   have hlt:=Z7 hv;have hi':=Zh hlt;have h20:decide ((i:Int)<20)=true:=decide_eq_true<|by omega
   have hs:=Zwe hv;have hle:=Zx4 hm<|i+1;have hm1:=hm v<|ZSd hv;have hw2:IntKind.i64.wrap (((Zr8 V.l i:Nat):Int)+((v.Events.l.length:Nat):Int))=((Zr8 V.l (i+1):Nat):Int):=by
    rw[YM (by omega)<|by omega];omega
   have hg1:=Z6 (f:=Ver.enc) hv;have hev:v.enc=.agg [I v.Authority,I v.Number,I v.At,.str v.Prev,.isl false v.Events.ex 18<|v.Events.l.map λe=>evA e,I v.Index,.isl false v.Sig.ex 1<|v.Sig.l.map encS,.isl false v.Path.ex 1<|v.Path.l.map encS]:=rfl
   rw[hev]at hg1;unfold ZvP at hP;cases hd:decide (((Zr8 V.l (i+1):Nat):Int)>most)with
   |true=>
    refine⟨_,by simp only[go_sem,c20L1b,c20L0,hg1,hi',h20,hw2,hd];rfl,?_⟩
    simp only[go_sem]
   |false=>
    have hP2:v.Events.l.all Xn=false:=by rw[hd]at hP;simpa using hP
    obtain⟨fr',L0,_,h2⟩:=ZyG V most (Zr8 V.l<|i+1) v i hv hm1;rw[hP2]at L0;have h2':=h2 hP2;have L0':Zg rE [0,1,5,6,7] c20L0b [(0,vsA false V),(1,I most),(5,I<|Zr8 V.l<|i+1),(6,I i),(7,.int .i64 0)] []=some (.ret,fr',[]):=L0;refine⟨_,by simp only[go_sem,c20L1b,c20L0,hg1,hi',h20,hw2,hd,L0'];rfl,?_⟩
    simp only[go_sem,h2'])
  (by
   rw[ZSD];rcases ZTp V.l.length 20 with h|h
   .rw[Nat.min_eq_right<|by omega]
    exact⟨_,by simp only[go_sem,c20L1b,ZG];rfl,by simp only[go_sem]⟩
   .rw[ZU3 h];have h20:decide (((20:Nat):Int)<20)=false:=rfl;cases c:decide (((20:Nat):Int)<((V.l.length:Nat):Int))with
    |true=>exact⟨_,by simp only[go_sem,c20L1b,c,h20];rfl,by simp only[go_sem]⟩
    |false=>exact⟨_,by simp only[go_sem,c20L1b,c];rfl,by simp only[go_sem]⟩)
 obtain⟨fr',L1,h0,h1⟩:=L;have L':Zg rE [0,1,5,6] c20L1b [(0,vsA false V),(1,I most),(5,.int .i64 0),(6,.int .i64 0)] []=_:=L1;rw[Z5 (f:=20) rfl rfl];unfold ZvT;cases c:Zu (ZvP V.l most) 0 (V.l.take 20)with
 |true=>
  rw[c,if_pos rfl]at L';have h0':=h0 c;simp only[go_sem,c20,c20L1,L',h0']
 |false=>
  rw[c,if_neg ZUj]at L';have h1':=h1 c;simp only[go_sem,c20,c20L1,L',h1']
def ZAn(l:List Ver)(i:Nat):Zr8 l i<=Zr8 l l.length:=by
 unfold Zr8;rw[ZSt]
 conv=>rhs;rw[<-ZT2 i l]
 rw[ZSm,List.sum_append];omega
def ZAo(l:List Ver):Zr8 l l.length=(l.map<|λv=>v.Events.l.length).sum:=by unfold Zr8;rw[ZSt]
def ZAp{l:List Ver}{v:Ver}(h:v∈l):v.Events.l.length<=Zr8 l l.length:=by
 obtain⟨i,hi⟩:=ZTh.1 h;have h1:=Zwe hi;have h2:=ZAn l<|i+1;omega
def ZyH(l:List Ver)(valid known:Int):∀i,(Zr7 l valid known i).length<=Zr8 l i
 |0=>ZS7 _
 |i+1=>by
  have ih:=ZyH l valid known i;unfold Zr7;rw[ZSv];cases hv:l[i]? with
  |none=>
   have:Zr8 l (i+1)=Zr8 l i:=by unfold Zr8;rw[ZT0,hv];simp
   show _+0<=_
   omega
  |some v=>
   have h1:=Zwe hv;have h2:=Zyu v valid i v.Events.l.length;show _+(bif Zvl l known i v then Zr4 v valid i v.Events.l.length else []).length<=_
   cases Zvl l known i v with
   |true=>rw[cond_true];omega
   |false=>rw[cond_false,ZSV];omega
def Zwf(l:List Ver)(valid known:Int):(Zr3 l valid known).length<=Zr8 l l.length:=by
 unfold Zr3;rw[(Zwc l _).length_eq];exact ZyH l valid known l.length
structure FewS(l:List Ver):Prop where
 len:l.length<=20
 few:∀v∈l,∀e∈v.Events.l,Xn e=true
 sum:Zr8 l l.length<=16
def Zx5{l:List Ver}(h:ZvT l 16=true):FewS l:=by
 unfold ZvT at h;rw[ZS3]at h;have hl:l.length<=20:=by have:=of_decide_eq_true h.2;omega
 rw[ZSk hl]at h;have hA:∀(i:Nat)v,l[i]?=some v->ZvP l 16 i v=true:=λi v hv=>by
  have:=Zda.1 h.1 i v hv;simpa using this
 refine⟨hl,λv hv e he=>?_,?_⟩
 .obtain⟨i,hi⟩:=ZTh.1 hv;have:=hA i v hi;unfold ZvP at this;rw[ZS3]at this;exact ZSj.1 this.2 e he
 .rcases Nat.eq_zero_or_pos l.length with h0|h0
  .rw[h0];exact ZS7 _
  .obtain⟨v,hv⟩:∃v,l[l.length-1]?=some v:=⟨_,ZS5<|by omega⟩
   have:=hA _ v hv;unfold ZvP at this;rw[ZS3,Nat.sub_add_cancel h0]at this;have h1:=of_decide_eq_false (by simpa using this.1:decide (((Zr8 l l.length:Nat):Int)>16)=false)
   omega
def FewS.vs{V:NL Ver}(h:FewS V.l):VsF V:=by
 refine⟨⟨by have:=h.len;omega,λv hv=>?_⟩,h.few⟩
 have h1:=ZAp hv;have h2:=h.sum;omega
def Zvy(l:List Ver)(p:Nat×Nat):Int:=match l[p.1]? with
 |some v=>(match v.Events.l[p.2]? with|some e=>e.Day|none=>0)
 |none=>0
def ZyI{l:List Ver}{p:Nat×Nat}{v:Ver}{e:Event}(h1:l[p.1]?=some v)(h2:v.Events.l[p.2]?=some e):Zvy l p=e.Day:=by
 unfold Zvy;rw[h1];simp only[h2]
def ltE(l:List Ver)(p q:Nat×Nat):Prop:=lexB (evK l p) (evK l q)=true
def ZAs{l:List Ver}{L:List (Nat×Nat)}(h:Zwu l L):(ZvG l L).Pairwise (ltE l):=by
 have h1:=ZwI _<|ZyA h;rw[ZwY,ZTw]at h1;exact h1
def ZyN{l:List Ver}{p:Nat×Nat}:¬ltE l p p:=λh=>by unfold ltE at h;rw[Zwm]at h;cases h
def Zx8{l:List Ver}{L:List (Nat×Nat)}(h:L.Pairwise<|ltE l):L.Nodup:=by
 refine List.Pairwise.imp (S:=λa b=>a≠b) ?_ h
 intro a b h e;subst e;exact ZyN h
def ZAt{l:List Ver}{a b:List (Nat×Nat)}(hp:a.Perm b)(h1:a.Pairwise<|ltE l)(h2:b.Pairwise<|ltE l):a=b:=
 List.Perm.eq_of_pairwise (le:=ltE l) (λx y _ _ q1 q2=>(ZyN (l:=l)<|ZvZ _ _ _ q1 q2).elim) h1 h2 hp
def ZD1{l l':List Ver}{C C':List (Nat×Nat)}(φ:Nat×Nat->Nat×Nat)(hd:Zwu l C)
 (mono:∀p∈C,∀q∈C,lexB (evK l p) (evK l q)=true->lexB (evK l'<|φ p) (evK l'<|φ q)=true)
 (hn:C'.Nodup) (hm:∀q,q∈C'↔∃p∈C,φ p=q):ZvG l' C'=(ZvG l C).map φ:=by
 have hdm:(C.map φ).Pairwise (λp q=>evK l' p≠evK l' q):=by
  rw[ZTw];refine List.Pairwise.imp_of_mem ?_ hd;intro p q hp hq hne he;cases c:lexB (evK l p) (evK l q)with
  |true=>
   have:=mono p hp q hq c;rw[he,Zwm]at this;cases this
  |false=>
   cases d:lexB (evK l q) (evK l p)with
   |true=>
    have:=mono q hq p hp d;rw[he,Zwm]at this;cases this
   |false=>exact hne<|Zwn _ _ c d
 have hnm:(C.map φ).Nodup:=hdm.imp<|λh e=>h<|by rw[e]
 have hperm:C'.Perm (C.map φ):=(List.perm_ext_iff_of_nodup hn hnm).2 λq=>by rw[hm,ZSG]
 have hdC':Zwu l' C':=hperm.symm.pairwise hdm<|λh=>h.symm
 refine ZAt (l:=l') (((Zwc l' C').trans hperm).trans ((Zwc l C).map φ).symm) (ZAs hdC') ?_;rw[ZTw];refine List.Pairwise.imp_of_mem ?_<|ZAs hd;intro p q hp hq h;exact mono p ((Zwc l C).mem_iff.1 hp) q ((Zwc l C).mem_iff.1 hq) h
structure Counts(l:List Ver)(valid known:Int)(p:Nat×Nat)(v:Ver)(e:Event):Prop where
 gv:l[p.1]?=some v
 ge:v.Events.l[p.2]?=some e
 day:e.Day<=valid
 at':v.At<=known
 first:∀w∈l.take p.1,¬(w.Authority=v.Authority/\w.Number=v.Number)
def ZyO(l:List Ver)(known:Int)(i:Nat)(v:Ver):Zvl l known i v=true↔v.At<=known/\∀w∈l.take i,¬(w.Authority=v.Authority/\w.Number=v.Number):=by
 unfold Zvl;rw[Zyw,ZS3,ZSJ,ZU1,ZSJ,decide_eq_false_iff_not];constructor
 .intro h;refine⟨by have:=h.2;omega,λw hw hc=>h.1 w hw ?_⟩
  rw[Zwt,hc.1,hc.2]
 .intro h;refine⟨λw hw hc=>h.2 w hw ?_,by have:=h.1;omega⟩
  rw[Zwt,Prod.mk.injEq]at hc;exact⟨hc.1.symm,hc.2.symm⟩
def ZyP{v:Ver}{valid:Int}{i n:Nat}{p:Nat×Nat}:p∈Zr4 v valid i n↔p.1=i/\p.2<n/\ZvS v valid p.2=true:=by
 unfold Zr4;rw[ZSG];constructor
 .rintro⟨k,hk,rfl⟩;have:=ZTD.1 hk;exact⟨rfl,by simpa using this.1,this.2⟩
 .rintro⟨h1,h2,h3⟩;exact⟨p.2,ZTD.2 ⟨by simpa using h2,h3⟩,by rw[<-h1]⟩
def ZyQ(l:List Ver)(valid known:Int)(p:Nat×Nat):∀i,p∈Zr7 l valid known i↔p.1<i/\∃v e,Counts l valid known p v e
 |0=>by simp[Zr7]
 |i+1=>by
  unfold Zr7;rw[ZSW,ZyQ l valid known p i];have key:(p∈(match l[i]? with|some v=>bif Zvl l known i v then Zr4 v valid i v.Events.l.length else []|none=>[]))↔p.1=i/\∃v e,Counts l valid known p v e:=by
   cases hv:l[i]? with
   |none=>
    constructor
    .intro h;cases h
    .rintro⟨h1,v,e,h2⟩;have:=h2.gv;rw[h1,hv]at this;cases this
   |some v=>
    show p∈(bif Zvl l known i v then Zr4 v valid i v.Events.l.length else [])↔_
    constructor
    .intro h;cases ht:Zvl l known i v with
     |false=>rw[ht]at h;cases h
     |true=>
      rw[ht,cond_true,ZyP]at h;obtain⟨h1,h2,h3⟩:=h;obtain⟨t1,t2⟩:=(ZyO l known i v).1 ht;unfold ZvS at h3;rw[ZS5 h2]at h3;refine⟨h1,v,_,⟨by rw[h1];exact hv,ZS5 h2,of_decide_eq_true h3,t1,by rw[h1];exact t2⟩⟩
    .rintro⟨h1,w,e,h2⟩;have hw:=h2.gv;rw[h1,hv]at hw;cases hw;have ht:Zvl l known i v=true:=(ZyO l known i v).2 ⟨h2.at',by have:=h2.first;rwa[h1]at this⟩
     rw[ht,cond_true,ZyP];refine⟨h1,Z7 h2.ge,?_⟩;unfold ZvS;rw[h2.ge];exact decide_eq_true h2.day
  refine Iff.trans (or_congr Iff.rfl key) ?_;constructor
  .rintro(⟨h1,h2⟩|⟨h1,h2⟩)
   .exact⟨by omega,h2⟩
   .exact⟨by omega,h2⟩
  .rintro⟨h1,h2⟩;rcases Nat.lt_or_eq_of_le (Nat.le_of_lt_succ h1)with h|h
   .exact .inl ⟨h,h2⟩
   .exact .inr ⟨h,h2⟩
def ZAu(l:List Ver)(valid known:Int)(p:Nat×Nat):p∈Zr7 l valid known l.length↔∃v e,Counts l valid known p v e:=by
 rw[ZyQ];exact⟨λh=>h.2,λ⟨v,e,h⟩=>⟨Z7 h.gv,v,e,h⟩⟩
def ZD2(l:List Ver)(valid known:Int)(i:Nat):(Zr7 l valid known i).Nodup:=(Zx0 l valid known i).imp (λh e=>h<|by rw[e])
def ZvQ(l:List Ver)(valid known:Int)(p:Nat×Nat):p∈Zr3 l valid known↔∃v e,Counts l valid known p v e:=by
 unfold Zr3;rw[(Zwc l _).mem_iff,ZAu]
def Zw6(l:List Ver)(valid known:Int):(Zr3 l valid known).Pairwise (ltE l):=ZAs<|Zx0 ..
def Counts.key{l:List Ver}{valid known:Int}{p:Nat×Nat}{v:Ver}{e:Event}(h:Counts l valid known p v e):evK l p=[e.Day,v.At,v.Authority,v.Number,(p.2:Int)]:=Zw4 h.gv h.ge
def Counts.dayK{l:List Ver}{valid known:Int}{p:Nat×Nat}{v:Ver}{e:Event}(h:Counts l valid known p v e):Zvy l p=e.Day:=ZyI h.gv h.ge
def ZyR(l:List Ver){v1 v2:Int}(h:v1<=v2)(known:Int):Zr3 l v1 known=(Zr3 l v2 known).filter (λp=>decide (Zvy l p<=v1)):=by
 refine ZAt (l:=l) ?_ (Zw6 ..)<|(Zw6 ..).filter _;refine(List.perm_ext_iff_of_nodup ?_ ?_).2 λp=>?_
 .exact Zx8<|Zw6 l v1 known
 .exact Zx8<|(Zw6 l v2 known).filter _
 .rw[ZTD,ZvQ,ZvQ];constructor
  .rintro⟨v,e,hc⟩;exact⟨⟨v,e,hc.gv,hc.ge,by have:=hc.day;omega,hc.at',hc.first⟩,decide_eq_true<|by rw[hc.dayK];exact hc.day⟩
  .rintro⟨⟨v,e,hc⟩,hd⟩;have:=of_decide_eq_true hd;rw[hc.dayK]at this;exact⟨v,e,hc.gv,hc.ge,this,hc.at',hc.first⟩
def ZyS(l:List Ver)(valid known:Int):(Zr3 l valid known).Pairwise (λp q=>Zvy l p<=Zvy l q):=by
 refine List.Pairwise.imp_of_mem ?_<|Zw6 l valid known;intro p q hp hq h;obtain⟨v,e,h1⟩:=(ZvQ ..).1 hp;obtain⟨w,f,h2⟩:=(ZvQ ..).1 hq;unfold ltE at h;rw[h1.key,h2.key]at h;simp only[lexB,ZTu,decide_eq_true_eq,ZS3,beq_iff_eq]at h;rw[h1.dayK,h2.dayK];omega
def ZyT{α:Type}(f:α->Int)(d:Int):∀{L:List α},L.Pairwise (λp q=>f p<=f q)->L.filter (λp=>decide (f p<=d))=L.take (L.filter<|λp=>decide (f p<=d)).length
 |[],_=>rfl
 |p::r,h=>by
  rw[ZSY]at h;rw[ZUi];cases c:decide (f p<=d)with
  |true=>
   rw[if_pos rfl,ZSu,ZTS,<-ZyT f d h.2]
  |false=>
   rw[if_neg ZUj];have:r.filter (λp=>decide (f p<=d))=[]:=by
    rw[List.filter_eq_nil_iff];intro q hq hd;have h1:=h.1 q hq;have h2:=of_decide_eq_true hd;have h3:=of_decide_eq_false c;omega
   rw[this];rfl
def Zx9(l:List Ver){v1 v2:Int}(h:v1<=v2)(known:Int):Zr3 l v1 known=(Zr3 l v2 known).take (Zr3 l v1 known).length:=by
 conv=>lhs;rw[ZyR l h,ZyT (Zvy l) v1<|ZyS l v2 known,<-ZyR l h]
def Zvu(st:Sta×List Int)(x:Int×Event):Sta×List Int:=(Zvx st.1 x.1 x.2,st.2++[Zvw st.1 x.1 x.2])
def Zvv(l:List Ver)(p:Nat×Nat):Option (Int×Event):=match l[p.1]? with
 |some v=>(match v.Events.l[p.2]? with|some e=>some (v.Authority,e)|none=>none)
 |none=>none
def stD(D:List<|Int×Event):Sta×List Int:=D.foldl Zvu (Yh,[])
def ZyU(l:List Ver):∀(O:List<|Nat×Nat)(st:Sta×List Int),O.foldl (Zvi l) st=(O.filterMap<|Zvv l).foldl Zvu st
 |[],_=>rfl
 |p::r,st=>by
  rw[ZSy,ZUE,ZyU l r];unfold Zvi Zvv;cases l[p.1]? with
  |none=>rfl
  |some v=>
   dsimp only;cases v.Events.l[p.2]? with
   |none=>rfl
   |some e=>rfl
def Zww(l:List Ver)(valid known:Int):Zr5 l valid known=stD ((Zr3 l valid known).filterMap (Zvv l)):=ZyU l _ _
def ZAv{l:List Ver}{p:Nat×Nat}{v:Ver}{e:Event}(h1:l[p.1]?=some v)(h2:v.Events.l[p.2]?=some e):Zvv l p=some (v.Authority,e):=by
 unfold Zvv;rw[h1];simp only[h2]
def ZCm(l:List Ver){v1 v2:Int}(h:v1<=v2)(known:Int):(Zr3 l v1 known).length<=(Zr3 l v2 known).length:=by
 have:=congrArg List.length<|Zx9 l h known;rw[ZSD]at this;omega
def ZCW{α β:Type}{f g:α->Option β}:∀{L:List α},(∀x∈L,f x=g x)->L.filterMap f=L.filterMap g
 |[],_=>rfl
 |x::r,h=>by rw[ZUE,ZUE,h x<|ZSS ..,ZCW<|λy hy=>h y<|ZT5 _ hy]
def ZOK{α:Type}{f sz:Nat}(hs:rE.sum f=some (ZOf sz))(enc:α->AV)(hf:∀x,fits sz (enc x)=true)(hc:∀x,clean (enc x)=true)(l:List α)(ex:Bool)(hl:l.length<=1000000):
 pfn rE f [.isl false ex sz<|l.map enc]=some (.isl false false sz<|l.map enc):=by
 have hfit:(l.map enc).all (fits sz)=true:=by rw[ZTq,ZSj];intro x _;exact hf x
 have hble:Nat.ble l.length 1000000=true:=ZT1 hl;have hcl:Z4 (l.map enc)=true:=Zw (λt=>hc t) _
 have htk:List.take l.length (l.map enc)=l.map enc:=ZSk<|by simp
 have h1:fnV rE f [.isl false ex sz<|l.map enc] []=some (.sl 0 l.length 0 l.length false,[.row sz<|l.map enc]):=by
  rw[V8 hs];simp only[ZOf,Q2,Qq,hfit,ZS4,hble,beq_self_eq_true,ZSe,ZSB,cond_true,ZSa,ZSV]
 unfold pfn;rw[h1,ZM];simp only[go_sem,hcl,htk,ZS4,ZSr,beq_self_eq_true]
def ZPY(l:List Str)(ex:Bool)(hl:l.length<=1000000):pfn rE 51 [.isl false ex 1<|l.map encS]=some (.isl false false 1<|l.map encS):=by
 have hfit:(l.map encS).all (fits 1)=true:=by rw[ZTq,ZSj];intro x _;rfl
 have hble:Nat.ble l.length 1000000=true:=ZT1 hl;have hcl:Z4 (l.map encS)=true:=Zw (λt=>rfl) _
 have htk:List.take l.length (l.map encS)=l.map encS:=ZSk<|by simp
 have h1:fnV rE 51 [.isl false ex 1<|l.map encS] []=some (.sl 0 l.length 0 l.length false,[.row 1<|l.map encS]):=by
  rw[V8 (s:=J9) rfl];simp only[J9,Q2,Qq,hfit,ZS4,hble,beq_self_eq_true,ZSe,ZSB,cond_true,ZSa,ZSV]
 unfold pfn;rw[h1,ZM];simp only[go_sem,hcl,htk,ZS4,ZSr,beq_self_eq_true]
abbrev cp{α:Type}(x:NL α):NL α:=⟨false,x.l⟩
def ZOd(e:Event):Event:={e with Ids:=cp e.Ids,Names:=cp e.Names,Path:=cp e.Path,Lst:=cp e.Lst}
def ZO8(r:Region):Region:={r with Ring:=cp r.Ring,Names:=cp r.Names}
def ZO9(r:Street):Street:={r with Line:=cp r.Line,Names:=cp r.Names}
def ZOa(r:Building):Building:={r with Ring:=cp r.Ring}
def ZO7(r:Door):Door:={r with After:=cp r.After}
def ZO2(s:Sta):Sta:={s with Regions:=s.Regions.map ZO8,Streets:=s.Streets.map ZO9,Buildings:=s.Buildings.map ZOa,Doors:=s.Doors.map ZO7}
def cPt(l:List Pt)(ex:Bool)(hl:l.length<=1000000):pfn rE 43 [.isl false ex 2<|l.map Pt.enc]=some (.isl false false 2<|l.map Pt.enc):=ZOK rfl Pt.enc (λ_=>rfl) (λ_=>rfl) l ex hl
def cNm(l:List Nm)(ex:Bool)(hl:l.length<=1000000):pfn rE 44 [.isl false ex 3<|l.map Nm.enc]=some (.isl false false 3<|l.map Nm.enc):=ZOK rfl Nm.enc (λ_=>rfl) (λ_=>rfl) l ex hl
def ZQP(l:List Ent)(ex:Bool)(hl:l.length<=1000000):pfn rE 61 [.isl false ex 7<|l.map Ent.enc]=some (.isl false false 7<|l.map Ent.enc):=ZOK rfl Ent.enc (λ_=>rfl) (λ_=>rfl) l ex hl
def cUn(l:List Unit')(ex:Bool)(hl:l.length<=1000000):pfn rE 52 [.isl false ex 6<|l.map Unit'.enc]=some (.isl false false 6<|l.map Unit'.enc):=ZOK rfl Unit'.enc (λ_=>rfl) (λ_=>rfl) l ex hl
def cPr(l:List Pair)(ex:Bool)(hl:l.length<=1000000):pfn rE 53 [.isl false ex 2<|l.map Pair.enc]=some (.isl false false 2<|l.map Pair.enc):=ZOK rfl Pair.enc (λ_=>rfl) (λ_=>rfl) l ex hl
structure EvL(e:Event):Prop where
 ids:e.Ids.l.length<=1000000
 names:e.Names.l.length<=1000000
 path:e.Path.l.length<=1000000
 lst:e.Lst.l.length<=1000000
def ZQQ(e:Event)(he:EvL e):pfn rE 36 [evA e]=some (evA<|ZOd e):=by
 have h1:=ZPY e.Ids.l e.Ids.ex he.ids;have h2:=cNm e.Names.l e.Names.ex he.names;have h3:=cPt e.Path.l e.Path.ex he.path;have h4:=ZQP e.Lst.l e.Lst.ex he.lst;rw[Z5 (f:=36) rfl rfl];simp only[go_sem,c36,h1,h2,h3,h4];rfl
def ZOL(r:Region):Z4 [r.enc]=true:=by
 have h1:Z4 (r.Ring.l.map Pt.enc)=true:=Zw (λt=>rfl) _
 have h2:Z4 (r.Names.l.map Nm.enc)=true:=Zw (λt=>rfl) _
 simp only[go_sem,Region.enc,NL.enc]
def ZOM(r:Street):Z4 [r.enc]=true:=by
 have h1:Z4 (r.Line.l.map Pt.enc)=true:=Zw (λt=>rfl) _
 have h2:Z4 (r.Names.l.map Nm.enc)=true:=Zw (λt=>rfl) _
 simp only[go_sem,Street.enc,NL.enc]
def ZON(r:Building):Z4 [r.enc]=true:=by
 have h1:Z4 (r.Ring.l.map Pt.enc)=true:=Zw (λt=>rfl) _
 simp only[go_sem,Building.enc,NL.enc]
def ZOO(r:Door):Z4 [r.enc]=true:=by
 have h1:Z4 (r.After.l.map encS)=true:=Zw (λt=>rfl) _
 simp only[go_sem,Door.enc,NL.enc]
def ZQR(l:List Event)(ex:Bool)(hl:l.length<=100000)(hx:∀x∈l,pfn rE 36 [evA x]=some (evA<|ZOd x)):pfn rE 35 [.isl false ex 18<|l.map<|λe=>evA e,.clo (.func 36) [] []]=some (.isl false false 18<|(l.map ZOd).map (λe=>evA e)):=by
 have hcl:∀L:List Event,Z4 (L.map<|λe=>evA e)=true:=λL=>Zw (λt=>by have:=ZwW t;unfold Z4 at this;rw[ZS3]at this;exact this.1) L
 have hb:∀(L:List Event)n,Zd n (L.map<|λe=>evA e)=true:=λL n=>ZN _<|hcl L
 have L:=Y8 (E:=rE) (live:=[1,5,8,9,10]) (b:=c35L0b) l.length (λi=>[(1,.clo (.func 36) [] []),(5,.sl 0 i 0 i false),(8,.isl false ex 18<|l.map<|λe=>evA e),(9,I l.length),(10,I i)])
  (λi=>[.row 18<|((l.take i).map ZOd).map (λe=>evA e)]) (λi=>rfl)
  (λi hi=>by
   obtain⟨x,hx'⟩:∃x,l[i]?=some x:=⟨_,ZS5 hi⟩;have hg:=Z6 (f:=(λe=>evA e)) hx'
   have hi':=Zh hi;have hwr:=Zx (n:=i)<|by omega
   have hp:=hx x<|ZSd hx';have hlen:(((l.take i).map ZOd).map (λe=>evA e)).length=i:=by simp;omega
   have hS:(((l.take<|i+1).map ZOd).map (λe=>evA e))=((l.take i).map ZOd).map (λe=>evA e)++[evA<|ZOd x]:=by
    rw[ZT0,hx'];simp
   have hA:∀r:List AObj,appW (.row 18 (((l.take i).map ZOd).map (λe=>evA e))::r) false 18 240 (.sl 0 i 0 i false) (.isl false false 18 [evA<|ZOd x])=some (.sl 0 (i+1) 0 (i+1) false,.row 18 (((l.take i).map ZOd).map (λe=>evA e)++[evA<|ZOd x])::r):=λr=>by
    have:=XC (h:=.row 18 (((l.take i).map ZOd).map (λe=>evA e))::r) (fz:=false) (b:=0) (g:=i) (sz:=18) (bytes:=240) (es:=((l.take i).map ZOd).map (λe=>evA e)) (bw:=false) (ex:=false) (ys:=[evA<|ZOd x]) (by unfold rowAt;simp only[ZSp,hlen,beq_self_eq_true,cond_true]) rfl rfl (by decide) (by decide) (by rw[ZT6];omega)
    rw[this];rfl
   have hb2:∀n,Zd n (((l.take i).map ZOd).map (λe=>evA e)++[evA<|ZOd x])=true:=λn=>by rw[<-hS];exact hb _ n
   have hbx:∀n,Zd n [evA x]=true:=λn=>ZN _<|ZwW x
   have hcx:=ZwW x;have hcy:=ZwW<|ZOd x;have hbi:=hb<|List.map ZOd<|l.take i;refine⟨[(1,.clo (.func 36) [] []),(5,.sl 0 (i+1) 0 (i+1) false),(8,.isl false ex 18<|l.map<|λe=>evA e),(9,I l.length),(10,I (i+1:Nat))],?_,rfl⟩
   rw[hS];generalize((l.take i).map ZOd).map (λe=>evA e)=es at*
   simp only[go_sem,c35L0b,hg,hi',hwr,hp,hA,hb2,hbi,evA])
  (e:=.exit 0) (fr:=[(1,.clo (.func 36) [] []),(5,.sl 0 l.length 0 l.length false),(8,.isl false ex 18<|l.map<|λe=>evA e),(9,I l.length),(10,I l.length)]) (h:=[.row 18<|(l.map ZOd).map (λe=>evA e)]) (by
   rw[ZSt];simp only[go_sem,c35L0b,ZG,hb]) (by simp)
 have L':Zg rE [1,5,8,9,10] c35L0b [(1,.clo (.func 36) [] []),(5,.sl 0 0 0 0 false),(8,.isl false ex 18<|l.map<|λe=>evA e),(9,I l.length),(10,.int .i64 0)] [.row 18 []]=_:=L
 have htk:List.take l.length ((l.map ZOd).map (λe=>evA e))=(l.map ZOd).map (λe=>evA e):=ZSk<|by simp
 have hc:=hcl<|l.map ZOd;have hbb:=hb<|l.map ZOd;have hlen:((l.map ZOd).map (λe=>evA e)).length=l.length:=by simp
 rw[Z5 (f:=35) rfl rfl];generalize(l.map ZOd).map (λe=>evA e)=es at*
 simp only[go_sem,c35,c35L0,L',hc,hbb,htk,hlen,ZSr,ZS4,beq_self_eq_true]
def ZQS(l:List Region)(ex:Bool)(hl:l.length<=100000)(hx:∀x∈l,pfn rE 42 [Region.enc x]=some (Region.enc<|ZO8 x)):pfn rE 41 [.isl false ex 6<|l.map Region.enc,.clo (.func 42) [] []]=some (.isl false false 6<|(l.map ZO8).map Region.enc):=by
 have hcl:∀L:List Region,Z4 (L.map Region.enc)=true:=λL=>Zw (λt=>by have:=ZOL t;unfold Z4 at this;rw[ZS3]at this;exact this.1) L
 have hb:∀(L:List Region)n,Zd n (L.map Region.enc)=true:=λL n=>ZN _<|hcl L
 have L:=Y8 (E:=rE) (live:=[1,5,8,9,10]) (b:=c41L0b) l.length (λi=>[(1,.clo (.func 42) [] []),(5,.sl 0 i 0 i false),(8,.isl false ex 6<|l.map Region.enc),(9,I l.length),(10,I i)])
  (λi=>[.row 6<|((l.take i).map ZO8).map Region.enc]) (λi=>rfl)
  (λi hi=>by
   obtain⟨x,hx'⟩:∃x,l[i]?=some x:=⟨_,ZS5 hi⟩;have hg:=Z6 (f:=Region.enc) hx';have hi':=Zh hi;have hwr:=Zx (n:=i)<|by omega
   have hp:=hx x<|ZSd hx';have hlen:(((l.take i).map ZO8).map Region.enc).length=i:=by simp;omega
   have hS:(((l.take<|i+1).map ZO8).map Region.enc)=((l.take i).map ZO8).map Region.enc++[Region.enc<|ZO8 x]:=by
    rw[ZT0,hx'];simp
   have hA:∀r:List AObj,appW (.row 6 (((l.take i).map ZO8).map Region.enc)::r) false 6 88 (.sl 0 i 0 i false) (.isl false false 6 [Region.enc<|ZO8 x])=some (.sl 0 (i+1) 0 (i+1) false,.row 6 (((l.take i).map ZO8).map Region.enc++[Region.enc<|ZO8 x])::r):=λr=>by
    have:=XC (h:=.row 6 (((l.take i).map ZO8).map Region.enc)::r) (fz:=false) (b:=0) (g:=i) (sz:=6) (bytes:=88) (es:=((l.take i).map ZO8).map Region.enc) (bw:=false) (ex:=false) (ys:=[Region.enc<|ZO8 x]) (by unfold rowAt;simp only[ZSp,hlen,beq_self_eq_true,cond_true]) rfl rfl (by decide) (by decide) (by rw[ZT6];omega)
    rw[this];rfl
   have hb2:∀n,Zd n (((l.take i).map ZO8).map Region.enc++[Region.enc<|ZO8 x])=true:=λn=>by rw[<-hS];exact hb _ n
   have hbx:∀n,Zd n [Region.enc x]=true:=λn=>ZN _<|ZOL x
   have hcx:=ZOL x;have hcy:=ZOL<|ZO8 x;have hbi:=hb<|List.map ZO8<|l.take i;refine⟨[(1,.clo (.func 42) [] []),(5,.sl 0 (i+1) 0 (i+1) false),(8,.isl false ex 6<|l.map Region.enc),(9,I l.length),(10,I (i+1:Nat))],?_,rfl⟩;rw[hS];generalize((l.take i).map ZO8).map Region.enc=es at*;simp only[Region.enc,NL.enc]at hg hp hA hb2;simp only[go_sem,c41L0b,hg,hi',hwr,hp,hA,hb2,hbi,Region.enc,NL.enc])
  (e:=.exit 0) (fr:=[(1,.clo (.func 42) [] []),(5,.sl 0 l.length 0 l.length false),(8,.isl false ex 6<|l.map Region.enc),(9,I l.length),(10,I l.length)]) (h:=[.row 6<|(l.map ZO8).map Region.enc]) (by
   rw[ZSt];simp only[go_sem,c41L0b,ZG,hb]) (by simp)
 have L':Zg rE [1,5,8,9,10] c41L0b [(1,.clo (.func 42) [] []),(5,.sl 0 0 0 0 false),(8,.isl false ex 6<|l.map Region.enc),(9,I l.length),(10,.int .i64 0)] [.row 6 []]=_:=L;have htk:List.take l.length ((l.map ZO8).map Region.enc)=(l.map ZO8).map Region.enc:=ZSk<|by simp
 have hc:=hcl<|l.map ZO8;have hbb:=hb<|l.map ZO8;have hlen:((l.map ZO8).map Region.enc).length=l.length:=by simp
 rw[Z5 (f:=41) rfl rfl];generalize(l.map ZO8).map Region.enc=es at*;simp only[go_sem,c41,c41L0,L',hc,hbb,htk,hlen,ZSr,ZS4,beq_self_eq_true]
def ZQT(l:List Street)(ex:Bool)(hl:l.length<=100000)(hx:∀x∈l,pfn rE 46 [Street.enc x]=some (Street.enc<|ZO9 x)):pfn rE 45 [.isl false ex 5<|l.map Street.enc,.clo (.func 46) [] []]=some (.isl false false 5<|(l.map ZO9).map Street.enc):=by
 have hcl:∀L:List Street,Z4 (L.map Street.enc)=true:=λL=>Zw (λt=>by have:=ZOM t;unfold Z4 at this;rw[ZS3]at this;exact this.1) L
 have hb:∀(L:List Street)n,Zd n (L.map Street.enc)=true:=λL n=>ZN _<|hcl L
 have L:=Y8 (E:=rE) (live:=[1,5,8,9,10]) (b:=c45L0b) l.length (λi=>[(1,.clo (.func 46) [] []),(5,.sl 0 i 0 i false),(8,.isl false ex 5<|l.map Street.enc),(9,I l.length),(10,I i)])
  (λi=>[.row 5<|((l.take i).map ZO9).map Street.enc]) (λi=>rfl)
  (λi hi=>by
   obtain⟨x,hx'⟩:∃x,l[i]?=some x:=⟨_,ZS5 hi⟩;have hg:=Z6 (f:=Street.enc) hx';have hi':=Zh hi;have hwr:=Zx (n:=i)<|by omega
   have hp:=hx x<|ZSd hx';have hlen:(((l.take i).map ZO9).map Street.enc).length=i:=by simp;omega
   have hS:(((l.take<|i+1).map ZO9).map Street.enc)=((l.take i).map ZO9).map Street.enc++[Street.enc<|ZO9 x]:=by
    rw[ZT0,hx'];simp
   have hA:∀r:List AObj,appW (.row 5 (((l.take i).map ZO9).map Street.enc)::r) false 5 80 (.sl 0 i 0 i false) (.isl false false 5 [Street.enc<|ZO9 x])=some (.sl 0 (i+1) 0 (i+1) false,.row 5 (((l.take i).map ZO9).map Street.enc++[Street.enc<|ZO9 x])::r):=λr=>by
    have:=XC (h:=.row 5 (((l.take i).map ZO9).map Street.enc)::r) (fz:=false) (b:=0) (g:=i) (sz:=5) (bytes:=80) (es:=((l.take i).map ZO9).map Street.enc) (bw:=false) (ex:=false) (ys:=[Street.enc<|ZO9 x]) (by unfold rowAt;simp only[ZSp,hlen,beq_self_eq_true,cond_true]) rfl rfl (by decide) (by decide) (by rw[ZT6];omega)
    rw[this];rfl
   have hb2:∀n,Zd n (((l.take i).map ZO9).map Street.enc++[Street.enc<|ZO9 x])=true:=λn=>by rw[<-hS];exact hb _ n
   have hbx:∀n,Zd n [Street.enc x]=true:=λn=>ZN _<|ZOM x
   have hcx:=ZOM x;have hcy:=ZOM<|ZO9 x;have hbi:=hb<|List.map ZO9<|l.take i;refine⟨[(1,.clo (.func 46) [] []),(5,.sl 0 (i+1) 0 (i+1) false),(8,.isl false ex 5<|l.map Street.enc),(9,I l.length),(10,I (i+1:Nat))],?_,rfl⟩;rw[hS];generalize((l.take i).map ZO9).map Street.enc=es at*;simp only[Street.enc,NL.enc]at hg hp hA hb2;simp only[go_sem,c45L0b,hg,hi',hwr,hp,hA,hb2,hbi,Street.enc,NL.enc])
  (e:=.exit 0) (fr:=[(1,.clo (.func 46) [] []),(5,.sl 0 l.length 0 l.length false),(8,.isl false ex 5<|l.map Street.enc),(9,I l.length),(10,I l.length)]) (h:=[.row 5<|(l.map ZO9).map Street.enc]) (by
   rw[ZSt];simp only[go_sem,c45L0b,ZG,hb]) (by simp)
 have L':Zg rE [1,5,8,9,10] c45L0b [(1,.clo (.func 46) [] []),(5,.sl 0 0 0 0 false),(8,.isl false ex 5<|l.map Street.enc),(9,I l.length),(10,.int .i64 0)] [.row 5 []]=_:=L;have htk:List.take l.length ((l.map ZO9).map Street.enc)=(l.map ZO9).map Street.enc:=ZSk<|by simp
 have hc:=hcl<|l.map ZO9;have hbb:=hb<|l.map ZO9;have hlen:((l.map ZO9).map Street.enc).length=l.length:=by simp
 rw[Z5 (f:=45) rfl rfl];generalize(l.map ZO9).map Street.enc=es at*;simp only[go_sem,c45,c45L0,L',hc,hbb,htk,hlen,ZSr,ZS4,beq_self_eq_true]
def ZQU(l:List Building)(ex:Bool)(hl:l.length<=100000)(hx:∀x∈l,pfn rE 48 [Building.enc x]=some (Building.enc<|ZOa x)):pfn rE 47 [.isl false ex 4<|l.map Building.enc,.clo (.func 48) [] []]=some (.isl false false 4<|(l.map ZOa).map Building.enc):=by
 have hcl:∀L:List Building,Z4 (L.map Building.enc)=true:=λL=>Zw (λt=>by have:=ZON t;unfold Z4 at this;rw[ZS3]at this;exact this.1) L
 have hb:∀(L:List Building)n,Zd n (L.map Building.enc)=true:=λL n=>ZN _<|hcl L
 have L:=Y8 (E:=rE) (live:=[1,5,8,9,10]) (b:=c47L0b) l.length (λi=>[(1,.clo (.func 48) [] []),(5,.sl 0 i 0 i false),(8,.isl false ex 4<|l.map Building.enc),(9,I l.length),(10,I i)])
  (λi=>[.row 4<|((l.take i).map ZOa).map Building.enc]) (λi=>rfl)
  (λi hi=>by
   obtain⟨x,hx'⟩:∃x,l[i]?=some x:=⟨_,ZS5 hi⟩;have hg:=Z6 (f:=Building.enc) hx';have hi':=Zh hi;have hwr:=Zx (n:=i)<|by omega
   have hp:=hx x<|ZSd hx';have hlen:(((l.take i).map ZOa).map Building.enc).length=i:=by simp;omega
   have hS:(((l.take<|i+1).map ZOa).map Building.enc)=((l.take i).map ZOa).map Building.enc++[Building.enc<|ZOa x]:=by
    rw[ZT0,hx'];simp
   have hA:∀r:List AObj,appW (.row 4 (((l.take i).map ZOa).map Building.enc)::r) false 4 56 (.sl 0 i 0 i false) (.isl false false 4 [Building.enc<|ZOa x])=some (.sl 0 (i+1) 0 (i+1) false,.row 4 (((l.take i).map ZOa).map Building.enc++[Building.enc<|ZOa x])::r):=λr=>by
    have:=XC (h:=.row 4 (((l.take i).map ZOa).map Building.enc)::r) (fz:=false) (b:=0) (g:=i) (sz:=4) (bytes:=56) (es:=((l.take i).map ZOa).map Building.enc) (bw:=false) (ex:=false) (ys:=[Building.enc<|ZOa x]) (by unfold rowAt;simp only[ZSp,hlen,beq_self_eq_true,cond_true]) rfl rfl (by decide) (by decide) (by rw[ZT6];omega)
    rw[this];rfl
   have hb2:∀n,Zd n (((l.take i).map ZOa).map Building.enc++[Building.enc<|ZOa x])=true:=λn=>by rw[<-hS];exact hb _ n
   have hbx:∀n,Zd n [Building.enc x]=true:=λn=>ZN _<|ZON x
   have hcx:=ZON x;have hcy:=ZON<|ZOa x;have hbi:=hb<|List.map ZOa<|l.take i;refine⟨[(1,.clo (.func 48) [] []),(5,.sl 0 (i+1) 0 (i+1) false),(8,.isl false ex 4<|l.map Building.enc),(9,I l.length),(10,I (i+1:Nat))],?_,rfl⟩;rw[hS];generalize((l.take i).map ZOa).map Building.enc=es at*;simp only[Building.enc,NL.enc]at hg hp hA hb2;simp only[go_sem,c47L0b,hg,hi',hwr,hp,hA,hb2,hbi,Building.enc,NL.enc])
  (e:=.exit 0) (fr:=[(1,.clo (.func 48) [] []),(5,.sl 0 l.length 0 l.length false),(8,.isl false ex 4<|l.map Building.enc),(9,I l.length),(10,I l.length)]) (h:=[.row 4<|(l.map ZOa).map Building.enc]) (by
   rw[ZSt];simp only[go_sem,c47L0b,ZG,hb]) (by simp)
 have L':Zg rE [1,5,8,9,10] c47L0b [(1,.clo (.func 48) [] []),(5,.sl 0 0 0 0 false),(8,.isl false ex 4<|l.map Building.enc),(9,I l.length),(10,.int .i64 0)] [.row 4 []]=_:=L;have htk:List.take l.length ((l.map ZOa).map Building.enc)=(l.map ZOa).map Building.enc:=ZSk<|by simp
 have hc:=hcl<|l.map ZOa;have hbb:=hb<|l.map ZOa;have hlen:((l.map ZOa).map Building.enc).length=l.length:=by simp
 rw[Z5 (f:=47) rfl rfl];generalize(l.map ZOa).map Building.enc=es at*;simp only[go_sem,c47,c47L0,L',hc,hbb,htk,hlen,ZSr,ZS4,beq_self_eq_true]
def ZQV(l:List Door)(ex:Bool)(hl:l.length<=100000)(hx:∀x∈l,pfn rE 50 [Door.enc x]=some (Door.enc<|ZO7 x)):pfn rE 49 [.isl false ex 16<|l.map Door.enc,.clo (.func 50) [] []]=some (.isl false false 16<|(l.map ZO7).map Door.enc):=by
 have hcl:∀L:List Door,Z4 (L.map Door.enc)=true:=λL=>Zw (λt=>by have:=ZOO t;unfold Z4 at this;rw[ZS3]at this;exact this.1) L
 have hb:∀(L:List Door)n,Zd n (L.map Door.enc)=true:=λL n=>ZN _<|hcl L
 have L:=Y8 (E:=rE) (live:=[1,5,8,9,10]) (b:=c49L0b) l.length (λi=>[(1,.clo (.func 50) [] []),(5,.sl 0 i 0 i false),(8,.isl false ex 16<|l.map Door.enc),(9,I l.length),(10,I i)])
  (λi=>[.row 16<|((l.take i).map ZO7).map Door.enc]) (λi=>rfl)
  (λi hi=>by
   obtain⟨x,hx'⟩:∃x,l[i]?=some x:=⟨_,ZS5 hi⟩;have hg:=Z6 (f:=Door.enc) hx';have hi':=Zh hi;have hwr:=Zx (n:=i)<|by omega
   have hp:=hx x<|ZSd hx';have hlen:(((l.take i).map ZO7).map Door.enc).length=i:=by simp;omega
   have hS:(((l.take<|i+1).map ZO7).map Door.enc)=((l.take i).map ZO7).map Door.enc++[Door.enc<|ZO7 x]:=by
    rw[ZT0,hx'];simp
   have hA:∀r:List AObj,appW (.row 16 (((l.take i).map ZO7).map Door.enc)::r) false 16 184 (.sl 0 i 0 i false) (.isl false false 16 [Door.enc<|ZO7 x])=some (.sl 0 (i+1) 0 (i+1) false,.row 16 (((l.take i).map ZO7).map Door.enc++[Door.enc<|ZO7 x])::r):=λr=>by
    have:=XC (h:=.row 16 (((l.take i).map ZO7).map Door.enc)::r) (fz:=false) (b:=0) (g:=i) (sz:=16) (bytes:=184) (es:=((l.take i).map ZO7).map Door.enc) (bw:=false) (ex:=false) (ys:=[Door.enc<|ZO7 x]) (by unfold rowAt;simp only[ZSp,hlen,beq_self_eq_true,cond_true]) rfl rfl (by decide) (by decide) (by rw[ZT6];omega)
    rw[this];rfl
   have hb2:∀n,Zd n (((l.take i).map ZO7).map Door.enc++[Door.enc<|ZO7 x])=true:=λn=>by rw[<-hS];exact hb _ n
   have hbx:∀n,Zd n [Door.enc x]=true:=λn=>ZN _<|ZOO x
   have hcx:=ZOO x;have hcy:=ZOO<|ZO7 x;have hbi:=hb<|List.map ZO7<|l.take i;refine⟨[(1,.clo (.func 50) [] []),(5,.sl 0 (i+1) 0 (i+1) false),(8,.isl false ex 16<|l.map Door.enc),(9,I l.length),(10,I (i+1:Nat))],?_,rfl⟩;rw[hS];generalize((l.take i).map ZO7).map Door.enc=es at*;simp only[Door.enc,NL.enc]at hg hp hA hb2;simp only[go_sem,c49L0b,hg,hi',hwr,hp,hA,hb2,hbi,Door.enc,NL.enc])
  (e:=.exit 0) (fr:=[(1,.clo (.func 50) [] []),(5,.sl 0 l.length 0 l.length false),(8,.isl false ex 16<|l.map Door.enc),(9,I l.length),(10,I l.length)]) (h:=[.row 16<|(l.map ZO7).map Door.enc]) (by
   rw[ZSt];simp only[go_sem,c49L0b,ZG,hb]) (by simp)
 have L':Zg rE [1,5,8,9,10] c49L0b [(1,.clo (.func 50) [] []),(5,.sl 0 0 0 0 false),(8,.isl false ex 16<|l.map Door.enc),(9,I l.length),(10,.int .i64 0)] [.row 16 []]=_:=L;have htk:List.take l.length ((l.map ZO7).map Door.enc)=(l.map ZO7).map Door.enc:=ZSk<|by simp
 have hc:=hcl<|l.map ZO7;have hbb:=hb<|l.map ZO7;have hlen:((l.map ZO7).map Door.enc).length=l.length:=by simp
 rw[Z5 (f:=49) rfl rfl];generalize(l.map ZO7).map Door.enc=es at*;simp only[go_sem,c49,c49L0,L',hc,hbb,htk,hlen,ZSr,ZS4,beq_self_eq_true]
def ZOD(n:Int):pfn rE 22 [I n]=some (.bool<|decide (0<=n)&&decide (n<=100000)):=by
 rw[Z5 (f:=22) rfl rfl];cases c:decide (0<=n)with
 |false=>
  have c':decide (n>=0)=false:=c;simp only[go_sem,c22,c',ZSo]
 |true=>
  have c':decide (n>=0)=true:=c;simp only[go_sem,c22,c',ZSc]
structure StL(s:Sta):Prop where
 regions:s.Regions.length<=100000/\∀r∈s.Regions,r.Ring.l.length<=1000000/\r.Names.l.length<=1000000
 streets:s.Streets.length<=100000/\∀r∈s.Streets,r.Line.l.length<=1000000/\r.Names.l.length<=1000000
 buildings:s.Buildings.length<=100000/\∀r∈s.Buildings,r.Ring.l.length<=1000000
 doors:s.Doors.length<=100000/\∀r∈s.Doors,r.After.l.length<=1000000
 units:s.Units.length<=100000
 merged:s.Merged.length<=100000
 rulings:s.Rulings.length<=100000
def ZQW(r:Region)(h1:r.Ring.l.length<=1000000)(h2:r.Names.l.length<=1000000):pfn rE 42 [r.enc]=some (ZO8 r).enc:=by
 have h1:=cPt r.Ring.l r.Ring.ex h1;have h2:=cNm r.Names.l r.Names.ex h2;rw[Z5 (f:=42) rfl rfl];simp only[go_sem,c42,Region.enc,NL.enc,h1,h2];rfl
def ZQX(r:Street)(h1:r.Line.l.length<=1000000)(h2:r.Names.l.length<=1000000):pfn rE 46 [r.enc]=some (ZO9 r).enc:=by
 have h1:=cPt r.Line.l r.Line.ex h1;have h2:=cNm r.Names.l r.Names.ex h2;rw[Z5 (f:=46) rfl rfl];simp only[go_sem,c46,Street.enc,NL.enc,h1,h2];rfl
def ZQY(r:Building)(h1:r.Ring.l.length<=1000000):pfn rE 48 [r.enc]=some (ZOa r).enc:=by
 have h1:=cPt r.Ring.l r.Ring.ex h1;rw[Z5 (f:=48) rfl rfl];simp only[go_sem,c48,Building.enc,NL.enc,h1];rfl
def ZQZ(r:Door)(h1:r.After.l.length<=1000000):pfn rE 50 [r.enc]=some (ZO7 r).enc:=by
 have h1:=ZPY r.After.l r.After.ex h1;rw[Z5 (f:=50) rfl rfl];simp only[go_sem,c50,Door.enc,NL.enc,h1];rfl
def ZR0(s:Sta)(hs:StL s):pfn rE 24 [stA s]=some (stA<|ZO2 s):=by
 have h1:=ZQS s.Regions false hs.regions.1<|λr hr=>ZQW r (hs.regions.2 r hr).1 (hs.regions.2 r hr).2
 have h2:=ZQT s.Streets false hs.streets.1<|λr hr=>ZQX r (hs.streets.2 r hr).1 (hs.streets.2 r hr).2
 have h3:=ZQU s.Buildings false hs.buildings.1<|λr hr=>ZQY r<|hs.buildings.2 r hr
 have h4:=ZQV s.Doors false hs.doors.1<|λr hr=>ZQZ r<|hs.doors.2 r hr
 have h5:=cUn s.Units false (by have:=hs.units;omega)
 have h6:=cPr s.Merged false (by have:=hs.merged;omega)
 have h7:=cPr s.Rulings false (by have:=hs.rulings;omega)
 have hc1:∀L:List Region,Z4 (L.map Region.enc)=true:=λL=>Zw (λt=>by have:=ZOL t;unfold Z4 at this;rw[ZS3]at this;exact this.1) L
 have hc2:∀L:List Street,Z4 (L.map Street.enc)=true:=λL=>Zw (λt=>by have:=ZOM t;unfold Z4 at this;rw[ZS3]at this;exact this.1) L
 have hc3:∀L:List Building,Z4 (L.map Building.enc)=true:=λL=>Zw (λt=>by have:=ZON t;unfold Z4 at this;rw[ZS3]at this;exact this.1) L
 have hc4:∀L:List Door,Z4 (L.map Door.enc)=true:=λL=>Zw (λt=>by have:=ZOO t;unfold Z4 at this;rw[ZS3]at this;exact this.1) L
 have hc5:Z4 (s.Units.map Unit'.enc)=true:=Zw (λt=>rfl) _
 have hc6:∀L:List Pair,Z4 (L.map Pair.enc)=true:=λL=>Zw (λt=>rfl) L
 rw[Z5 (f:=24) rfl rfl];simp only[go_sem,c24,h1,h2,h3,h4,h5,h6,h7];rfl
def ZR1(s:Sta)(hs:StF s)(a:Int)(e:Event)(he:EvS e):pfn rE 23 [stA s,I a,evA e]=some (stA<|Zvx s a e):=by
 have hC:=Zpq s hs.e a e he;have hY:=JJ s hs a e he;have hq:∀t:Sta,Z4 [stA t]=true:=ZsZ;have hqe:=ZwW e;rw[Z5 (f:=23) rfl rfl];unfold Zvx;have hcs:=hq s;have hct:=hq<|ZP s a e;generalize ZP s a e=t at*;generalize Qk s a e=f at*;generalize ZoN s a e=c at*;cases c1:c==0 with
 |false=>
  have c1':(c != 0)=true:=by unfold bne;rw[c1];rfl
  rw[ZSo,cond_false];simp only[go_sem,c23,hC,c1',hqe]
 |true=>
  have c1':(c != 0)=false:=by unfold bne;rw[c1];rfl
  rw[ZSc];cases c2:f==0 with
  |false=>
   rw[cond_false];simp only[go_sem,c23,hC,hY,c1',c2,hqe]
  |true=>
   rw[cond_true];simp only[go_sem,c23,hC,hY,c1',c2,hqe]
structure Tldz where
 s:Sta
 vl:Int
 kn:Int
 ev:Nat
 is:Bool
 V:List Ver
 wk:Nat
def tlA(t:Tldz):List AV:=[.isl false false 6<|t.s.Regions.map Region.enc,.isl false false 5<|t.s.Streets.map Street.enc,.isl false false 4<|t.s.Buildings.map Building.enc,.isl false false 16<|t.s.Doors.map Door.enc,
 .isl false false 6 (t.s.Units.map Unit'.enc),.isl false false 2<|t.s.Merged.map Pair.enc,.isl false false 2<|t.s.Rulings.map Pair.enc,I t.vl,I t.kn,I t.ev,.bool t.is]
def tlC(x m:Nat)(t:Tldz):AV:=.agg [.isl false false 6<|t.s.Regions.map Region.enc,.isl false false 5<|t.s.Streets.map Street.enc,.isl false false 4<|t.s.Buildings.map Building.enc,.isl false false 16<|t.s.Doors.map Door.enc,
 .isl false false 6 (t.s.Units.map Unit'.enc),.isl false false 2<|t.s.Merged.map Pair.enc,.isl false false 2<|t.s.Rulings.map Pair.enc,I t.vl,I t.kn,I t.ev,.bool t.is,.sl x t.V.length 0 t.V.length false,.mp m,I t.wk]
def ZOk(x m:Nat)(t:Tldz):tlC x m t=stc x m t.V.length (tlA t) [I t.wk]:=rfl
def ZO6(n:Int):Bool:=decide (0<=n)&&decide (n<=100000)
def ZO5(t:Tldz)(valid known:Int):Tldz:=bif !t.is||(t.kn != known||decide (t.vl>valid))then {t with s:=Yh,vl:=0,kn:=0,ev:=0,is:=false}else t
def ZOg(V:List Ver)(s:Sta)(p:Nat×Nat):Sta:=(Zvi V (s,[]) p).1
def ZOc(t:Tldz)(valid known:Int):Tldz:=
 let k:=ZO5 t valid known
 let o:=Zr3 t.V valid known
 {s:=(o.drop k.ev).foldl (ZOg t.V) k.s,vl:=valid,kn:=known,ev:=o.length,is:=true,V:=t.V,wk:=t.wk+(o.length-k.ev)}
abbrev atF(valid known:Int)(O R:List<|Nat×Nat)(i:Nat):Fr:=[(0,.ptr 1 0 0 1),(1,I valid),(2,I known),(6,.ptr 3 0 0 1),(8,.isl false false 2<|O.map prA),(66,.isl false false 2<|R.map prA),(67,I R.length),(68,I i)]
abbrev atH(ks vs:List AV)(t:Tldz):Hp:=[.map ks vs,.row 14 [tlC 2 0 t],.row 8<|t.V.map Ver.enc,.row 7 [stA Yh]]
def ZOp(t:Tldz)(R:List<|Nat×Nat)(i:Nat):Tldz:={t with s:=(R.take i).foldl (ZOg t.V) t.s,wk:=t.wk+i}
def ZOP{V:List Ver}{p:Nat×Nat}{v:Ver}{e:Event}(h1:V[p.1]?=some v)(h2:v.Events.l[p.2]?=some e)(s:Sta):ZOg V s p=Zvx s v.Authority e:=by
 unfold ZOg;rw[ZyC h1 h2]
structure TlF(t:Tldz):Prop where
 V:VsF ⟨false,t.V⟩
 s:∃n,n<=10/\StN (t.ev+n) t.s
def ZOA{V:List Ver}(hV:VsF ⟨false,V⟩):∀(R:List<|Nat×Nat)(n:Nat)(s:Sta),(∀p∈R,InL V p)->StN n s->n+R.length<=50->StN (n+R.length) (R.foldl (ZOg V) s)
 |[],n,s,_,hs,_=>hs
 |p::R,n,s,hp,hs,hn=>by
  obtain⟨v,e,h1,h2⟩:=hp p<|ZSS ..;rw[ZSu]at hn;rw[ZSy,ZOP h1 h2,ZSu,show n+(R.length+1)=n+1+R.length by omega]
  exact ZOA hV R (n+1) _ (λq hq=>hp q<|ZT5 _ hq) (hs.sta (by omega) _<|ZyD hV h1 h2)<|by omega
def ZR2(valid known:Int)(ks vs:List AV)(hk:Z4 ks=true)(hv:Z4 vs=true)(t:Tldz)(hV:VsF ⟨false,t.V⟩)(O R:List<|Nat×Nat)(n:Nat)(hs:StN n t.s)(hn:n+R.length<=50)(hR:∀p∈R,InL t.V p)(hw:t.wk<=1000000):
 Zg rE [0,1,2,6,8,66,67,68] c13L0b (atF valid known O R 0) (atH ks vs t)=some (.exit 0,atF valid known O R R.length,atH ks vs<|ZOp t R R.length):=by
 have hbK:∀n,Zd n ks=true/\Zd n vs=true:=λn=>⟨ZN _ hk,ZN _ hv⟩
 have hvc:∀(L:List Ver),Z4 (L.map Ver.enc)=true:=λL=>Zw (λv=>by have:=Zyt v;unfold Z4 at this;rw[ZS3]at this;exact this.1) L
 have hbV:∀n,Zd n (t.V.map Ver.enc)=true:=λn=>ZN _<|hvc _
 have hbS:∀(s:Sta)n,Zd n [stA s]=true:=λs n=>ZN _<|ZsZ s
 have hbO:∀(M:List<|Nat×Nat)n,Zd n (M.map prA)=true:=λM n=>ZN _<|Zw (λt=>rfl) M
 have z0:((0:Int)<=0/\(0:Int)<((2:Nat):Int))=True:=by simp
 have z1:((0:Int)<=1/\(1:Int)<((2:Nat):Int))=True:=by simp
 have t0:Int.toNat 0*1=0:=rfl;have t1:Int.toNat 1*1=1:=rfl;have L:=Y8 (E:=rE) (live:=[0,1,2,6,8,66,67,68]) (b:=c13L0b) R.length (λi=>atF valid known O R i) (λi=>atH ks vs<|ZOp t R i) (λi=>rfl)
  (λi hi=>by
   obtain⟨p,hp⟩:∃p,R[i]?=some p:=⟨_,ZS5 hi⟩;obtain⟨v,e,h1,h2⟩:=hR p<|ZSd hp;have hg:=Z6 (f:=prA) hp;have hg1:=Z6 (f:=Ver.enc) h1;have hg2:=Z6 (f:=λe=>evA e) h2
   have hi':=Zh hi;have hwr:=Zx (n:=i)<|by omega
   have hwk:=Zx (n:=t.wk+i)<|by omega
   have hfe:=ZyD hV h1 h2;have hz:=ZOA hV (R.take i) n t.s (λq hq=>hR q<|ZTt hq) hs<|by rw[ZSD];omega
   have hle:(R.take i).length<=i:=by simp;omega
   have hsf:StF ((R.take i).foldl (ZOg t.V) t.s):=hz.f<|by omega
   have hS:=ZR1 _ hsf v.Authority e<|JL e hfe;have hgo:ZOp t R (i+1)={ZOp t R i with s:=Zvx ((R.take i).foldl (ZOg t.V) t.s) v.Authority e,wk:=t.wk+i+1}:=by
    unfold ZOp;rw[Us _ _ hp,ZOP h1 h2];rfl
   refine⟨atF valid known O R<|i+1,?_,rfl⟩;have hgi:ZOp t R i={t with s:=(R.take i).foldl (ZOg t.V) t.s,wk:=t.wk+i}:=rfl
   rw[hgo,hgi];generalize(R.take i).foldl (ZOg t.V) t.s=s at*;generalize Zvx s v.Authority e=s' at*;have hvv:v.enc=.agg [I v.Authority,I v.Number,I v.At,.str v.Prev,.isl false v.Events.ex 18<|v.Events.l.map λe=>evA e,I v.Index,.isl false v.Sig.ex 1<|v.Sig.l.map encS,.isl false v.Path.ex 1<|v.Path.l.map encS]:=rfl
   rw[hvv]at hg1;simp only[stA]at hS;have hlv:(t.V.map Ver.enc).length=t.V.length:=ZS4 _;have hpi:p.1<t.V.length:=(ZSb.1 h1).1;generalize hVe:t.V.map Ver.enc=Ve at*;have hia:iaP 2 t.V.length 0 8 (p.1:Int) t.V.length (some (8,Ve))=some (.ptr 2 p.1 0 t.V.length):=by
    rw[VT 2 t.V.length 0 8 p.1 t.V.length Ve ⟨Int.natCast_nonneg _,by omega⟩,ZUh,ZSh]
   simp only[go_sem,c13L0b,atF,atH,tlC,prA,hg,hg1,hg2,hi',hwr,hwk,hS,hlv,hVe,hia,beq_self_eq_true,hbV,hbS,hbK,z0,z1,t0,t1,if_true])
  (e:=.exit 0) (fr:=atF valid known O R R.length) (h:=atH ks vs<|ZOp t R R.length) (by
   have hVV:(ZOp t R R.length).V=t.V:=rfl;simp only[go_sem,c13L0b,atF,atH,hVV,ZG,hbV,hbS,hbK]) (by simp)
 have e0:ZOp t R 0=t:=rfl;rw[e0]at L;exact L
def StN.l{n:Nat}{s:Sta}(h:StN n s)(hn:n<=50):StL s:=by
 have e:=h.e;have h1:=h.regions;have h2:=h.streets;have h3:=h.buildings;have h4:=h.doors;have h5:=h.units;have h6:=h.merged;have h7:=h.rulings;refine⟨⟨by omega,λr hr=>?_⟩,⟨by omega,λr hr=>?_⟩,⟨by omega,λr hr=>?_⟩,⟨by omega,λr hr=>?_⟩,by omega,by omega,by omega⟩
 .have:=e.regions r hr;omega
 .have:=e.streets r hr;omega
 .have:=e.buildings r hr;omega
 .have:=(e.doors r hr).after;omega
def ZR3(hq:REdz.q=none)(t:Tldz)(valid known:Int)(hd:(ZO6 valid&&ZO6 known)=false)(ks vs:List AV):
 ∃g,fnV rE 13 [.ptr 1 0 0 1,I valid,I known] [.map ks vs,.row 14 [tlC 2 0 t],.row 8<|t.V.map Ver.enc] =
  some (.tup [stA Yh,I 1],[.map ks vs,.row 14 [tlC 2 0 t],.row 8<|t.V.map Ver.enc]++g):=by
 have hs:rE.sum 13=none:=by show REdz.q.map ZEo=none;rw[hq];rfl
 have h1:=ZOD valid;have h2:=ZOD known;change pfn rE 22 [I valid]=some (.bool<|ZO6 valid)at h1;change pfn rE 22 [I known]=some (.bool<|ZO6 known)at h2;rw[Q6 (f:=13) hs rfl];cases c1:ZO6 valid with
 |false=>
  rw[c1]at h1;exact⟨[.row 7 [stA Yh]],by simp only[go_sem,c13,h1];rfl⟩
 |true=>
  rw[c1]at h1;cases c2:ZO6 known with
  |true=>rw[c1,c2]at hd;cases hd
  |false=>
   rw[c2]at h2;exact⟨[.row 7 [stA Yh]],by simp only[go_sem,c13,h1,h2];rfl⟩
def ZR4(hq:REdz.q=none)(t:Tldz)(valid known:Int)(hd:(ZO6 valid&&ZO6 known)=true)(ks vs:List AV)(hk:Z4 ks=true)(hv:Z4 vs=true)(hV:VsF ⟨false,t.V⟩)(hw:t.wk<=1000000)(n:Nat)
 (hs:StN n (ZO5 t valid known).s) (hev:(ZO5 t valid known).ev<=(Zr3 t.V valid known).length) (hn:n+((Zr3 t.V valid known).length-(ZO5 t valid known).ev)<=50):
 ∃g,fnV rE 13 [.ptr 1 0 0 1,I valid,I known] [.map ks vs,.row 14 [tlC 2 0 t],.row 8<|t.V.map Ver.enc] =
  some (.tup [stA<|ZO2 (ZOc t valid known).s,I 0],[.map ks vs,.row 14 [tlC 2 0<|ZOc t valid known],.row 8<|t.V.map Ver.enc]++g):=by
 have hsum:rE.sum 13=none:=by show REdz.q.map ZEo=none;rw[hq];rfl
 have h1:=ZOD valid;have h2:=ZOD known;change pfn rE 22 [I valid]=some (.bool<|ZO6 valid)at h1;change pfn rE 22 [I known]=some (.bool<|ZO6 known)at h2;rw[ZS3]at hd;rw[hd.1]at h1;rw[hd.2]at h2;have hO:=Zx1 (w:=true) ⟨false,t.V⟩ hV.s valid known;have hin:=Zwd t.V valid known;have hkV:(ZO5 t valid known).V=t.V:=by unfold ZO5;cases(!t.is||(t.kn != known||decide (t.vl>valid)))<;>rfl
 have hkw:(ZO5 t valid known).wk=t.wk:=by unfold ZO5;cases(!t.is||(t.kn != known||decide (t.vl>valid)))<;>rfl
 have hfin:=ZOA hV ((Zr3 t.V valid known).drop (ZO5 t valid known).ev) n _ (λp hp=>hin p<|ZTB hp) hs<|by rw[ZTn];omega
 rw[ZTn]at hfin;have hcp:=ZR0 _<|hfin.l hn;have hL:=ZR2 valid known ks vs hk hv (ZO5 t valid known) (by rw[hkV];exact hV) (Zr3 t.V valid known) ((Zr3 t.V valid known).drop (ZO5 t valid known).ev) n hs (by rw[ZTn];omega) (by rw[hkV];exact λp hp=>hin p<|ZTB hp)<|by rw[hkw];omega
 have hAt:ZOc t valid known={s:=((Zr3 t.V valid known).drop (ZO5 t valid known).ev).foldl (ZOg t.V) (ZO5 t valid known).s,vl:=valid,kn:=known,ev:=(Zr3 t.V valid known).length,is:=true,V:=t.V,wk:=t.wk+((Zr3 t.V valid known).length-(ZO5 t valid known).ev)}:=rfl
 have hgo:ZOp (ZO5 t valid known) ((Zr3 t.V valid known).drop (ZO5 t valid known).ev) ((Zr3 t.V valid known).drop (ZO5 t valid known).ev).length={s:=((Zr3 t.V valid known).drop (ZO5 t valid known).ev).foldl (ZOg t.V) (ZO5 t valid known).s,vl:=(ZO5 t valid known).vl,kn:=(ZO5 t valid known).kn,ev:=(ZO5 t valid known).ev,is:=(ZO5 t valid known).is,V:=t.V,wk:=t.wk+((Zr3 t.V valid known).length-(ZO5 t valid known).ev)}:=by
  unfold ZOp;rw[ZSt,hkV,hkw,ZTn]
 rw[hgo]at hL;rw[hAt];have hvc:∀(L:List Ver),Z4 (L.map Ver.enc)=true:=λL=>Zw (λv=>by have:=Zyt v;unfold Z4 at this;rw[ZS3]at this;exact this.1) L
 have htk:List.take t.V.length (t.V.map Ver.enc)=t.V.map Ver.enc:=ZSk<|by simp
 have hsl:(List.take ((Zr3 t.V valid known).length-(ZO5 t valid known).ev)<|List.drop (ZO5 t valid known).ev<|(Zr3 t.V valid known).map prA)=((Zr3 t.V valid known).drop (ZO5 t valid known).ev).map prA:=by
  rw[<-List.map_drop,ZSk<|by rw[ZS4,ZTn];omega]
 have hdl:(((Zr3 t.V valid known).drop (ZO5 t valid known).ev).length:Int)=(((Zr3 t.V valid known).length-(ZO5 t valid known).ev:Nat):Int):=by rw[ZTn]
 have hcl:=hvc t.V;have hlv:(t.V.map Ver.enc).length=t.V.length:=ZS4 _;have hbo:=hvc t.V;rw[Q6 (f:=13) hsum rfl];generalize hk2:ZO5 t valid known=k at*;generalize Zr3 t.V valid known=O at*;generalize hs2:(O.drop k.ev).foldl (ZOg t.V) k.s=s2 at*;unfold ZO5 at hk2;have hbd:∀m:Nat,m<=O.length->bounds (some<|I m) none none O.length=some (m,O.length,none):=λm hm=>by
  simp only[bounds,Vz,Wl,VA,numOf,Int.natCast_nonneg,if_true,ZUh,Option.isNone_none,cond_true,ZT1 hm,ZT1<|ZS6 O.length,VB,ZSR]
 have hcq:=ZsZ<|ZO2 s2;have hcs:=ZsZ s2;have hvb:∀n,Zd n (t.V.map Ver.enc)=true:=λn=>ZN _ hcl
 have hOc:∀M:List<|Nat×Nat,Z4 (M.map prA)=true:=λM=>Zw (λt=>rfl) M
 simp only[atF,atH,tlC,stA]at hL;simp only[stA]at hcp hcq hcs;have hkb:∀n,Zd n ks=true/\Zd n vs=true:=λn=>⟨ZN _ hk,ZN _ hv⟩
 have c0:((0:Nat):Int)=0:=rfl;simp only[c0]at hL;have hb0:bounds (some<|.int .i64 0) none none O.length=some (0,O.length,none):=hbd 0<|ZS7 _;have hsl':List.take O.length (O.map prA)=O.map prA:=ZSk<|by simp
 cases c1:t.is with
 |false=>
  simp only[c1,ZSs,ZSe,cond_true]at hk2;subst hk2;simp only[ZSr,ZTo,Yh,ZSq,c0]at hL;refine⟨[.row 7 [stA<|ZO2 s2]],?_⟩;simp only[go_sem,c13,c13L0,h1,h2,tlC,stA,c1,hvc,hO,hlv,htk,hb0,hsl',ZSr,ZTo,beq_self_eq_true,hL,hcp,hkb,hvb]
 |true=>
  cases c2:t.kn != known with
  |true=>
   simp only[c1,c2,ZSn,ZSl,ZSe,cond_true]at hk2;subst hk2;simp only[ZSr,ZTo,Yh,ZSq,c0]at hL;refine⟨[.row 7 [stA<|ZO2 s2]],?_⟩;simp only[go_sem,c13,c13L0,h1,h2,tlC,stA,c1,c2,hvc,hO,hlv,htk,hb0,hsl',ZSr,ZTo,beq_self_eq_true,hL,hcp,hkb,hvb]
  |false=>
   cases c3:decide (t.vl>valid)with
   |true=>
    simp only[c1,c2,c3,ZSn,ZSl,cond_true]at hk2;subst hk2;simp only[ZSr,ZTo,Yh,ZSq,c0]at hL;refine⟨[.row 7 [stA<|ZO2 s2]],?_⟩;simp only[go_sem,c13,c13L0,h1,h2,tlC,stA,c1,c2,c3,hvc,hO,hlv,htk,hb0,hsl',ZSr,ZTo,beq_self_eq_true,hL,hcp,hkb,hvb]
   |false=>
    simp only[c1,c2,c3,ZSn,ZSl,cond_false]at hk2;subst hk2;simp only[c1,Yh,ZSq]at hL;have hbe:=hbd t.ev hev;refine⟨[.row 7 [stA<|ZO2 s2]],?_⟩;simp only[go_sem,c13,c13L0,h1,h2,tlC,stA,c1,c2,c3,hvc,hO,hlv,htk,hbe,hsl,beq_self_eq_true,hL,hcp,hkb,hvb]
end Go.AM
namespace Go.AM
open Go
section
variable [REdz]
structure TlG(t:Tldz)(valid known:Int):Prop where
 V:VsF ⟨false,t.V⟩
 wk:t.wk<=1000000
 st:∃n,StN n (ZO5 t valid known).s/\(ZO5 t valid known).ev<=(Zr3 t.V valid known).length/\n+((Zr3 t.V valid known).length-(ZO5 t valid known).ev)<=50
end
def atR(t:Tldz)(valid known:Int):Tldz:=bif ZO6 valid&&ZO6 known then ZOc t valid known else t
def atV(t:Tldz)(valid known:Int):AV:=bif ZO6 valid&&ZO6 known then .tup [stA<|ZO2 (ZOc t valid known).s,I 0]else .tup [stA Yh,I 1]
def ZP8(t:Tldz)(valid known:Int):(atR t valid known).V=t.V:=by
 unfold atR;cases ZO6 valid&&ZO6 known<;>rfl
def ZP9[REdz](hq:REdz.q=none)(t:Tldz)(valid known:Int)(h:TlG t valid known)(ks vs:List AV)(hk:Z4 ks=true)(hv:Z4 vs=true):
 ∃g,fnV rE 13 [.ptr 1 0 0 1,I valid,I known] [.map ks vs,.row 14 [tlC 2 0 t],.row 8<|t.V.map Ver.enc] =
  some (atV t valid known,[.map ks vs,.row 14 [tlC 2 0<|atR t valid known],.row 8<|t.V.map Ver.enc]++g):=by
 unfold atV atR;cases hd:ZO6 valid&&ZO6 known with
 |true=>
  obtain⟨n,h1,h2,h3⟩:=h.st;exact ZR4 hq t valid known hd ks vs hk hv h.V h.wk n h1 h2 h3
 |false=>exact ZR3 hq t valid known hd ks vs
def ZR5{x m n n':Nat}{A A' C C':List AV}(h:stc x m n A C=stc x m n' A' C')(hl:A.length=A'.length):n=n'/\A=A'/\C=C':=by
 unfold stc at h;have h1:=(AV.agg.inj h);have h2:=List.append_inj h1 hl;obtain⟨e1,e2⟩:=h2;simp only[List.cons.injEq,AV.sl.injEq,and_true,true_and]at e2;exact⟨e2.1.1,e1,e2.2⟩
def ZOY[REdz]{x m:Nat}{t t':Tldz}(h:tlC x m t=tlC x m t')(y k:Nat):tlC y k t=tlC y k t':=by
 rw[ZOk,ZOk]at h;obtain⟨h1,h2,h3⟩:=ZR5 h rfl;rw[ZOk,ZOk,h1,h2,h3]
def ZOQ[REdz](t:Tldz):Z4 (tlA t)=true:=by
 have hs:=ZsZ t.s;unfold tlA;simp only[stA,go_sem]at hs⊢
def ZR6[REdz](hq:REdz.q=none):∃s:List AV->Nat->List AV->Option (List AV),ZPW rE 13 s/\
 ∀b t valid known,0<b->TlG t valid known->s [.ptr b 0 0 8,I valid,I known] 14 (tlC (b+1) (b-1) t::t.V.map Ver.enc)=some [tlC (b+1) (b-1)<|atR t valid known,atV t valid known]:=by
 classical
 let Q:List AV->Nat->List AV->Nat->Tldz->Int->Int->Prop:=λargs sz es b t valid known=>0<b/\TlG t valid known/\args=[.ptr b 0 0 8,I valid,I known]/\sz=14/\es=tlC (b+1) (b-1) t::t.V.map Ver.enc
 let O:List AV->Nat->List AV->List AV->Prop:=λargs sz es o=>∃b t valid known,Q args sz es b t valid known/\o=[tlC (b+1) (b-1)<|atR t valid known,atV t valid known]
 have huni:∀args sz es o o',O args sz es o->O args sz es o'->o=o':=by
  rintro args sz es o o' ⟨b,t,valid,known,⟨hb,hg,rfl,rfl,rfl⟩,rfl⟩ ⟨b',t',valid',known',⟨hb',hg',ha,_,he⟩,rfl⟩;simp only[List.cons.injEq,AV.ptr.injEq,AV.int.injEq,and_true,true_and]at ha;obtain⟨rfl,rfl,rfl⟩:=ha;simp only[List.cons.injEq]at he;obtain⟨g,hr⟩:=ZP9 hq t valid known hg [] [] rfl rfl;obtain⟨g',hr'⟩:=ZP9 hq t' valid known hg' [] [] rfl rfl;rw[ZOY he.1 2 0,he.2,hr',Option.some.injEq,Prod.mk.injEq]at hr;have h2:=hr.2;simp only[ZS8,ZSa,List.cons.injEq,AObj.row.injEq,and_true,true_and]at h2;rw[hr.1,ZOY h2.1 (b+1)<|b-1]
 refine⟨λargs sz es=>if h:∃o,O args sz es o then some h.choose else none,⟨?_,?_⟩,?_⟩
 .intro args sz es r hr;have hr:(if h:∃o,O args sz es o then some h.choose else none)=some r:=hr
  split at hr
  .rename_i h;obtain⟨b,t,valid,known,⟨_,_,rfl,_⟩,_⟩:=h.choose_spec;exact⟨_,_,_,rfl⟩
  .cases hr
 .intro b sz2 args sz e es e' v hr;have hr:(if h:∃o,O (.ptr b 0 0 sz2::args) sz (e::es) o then some h.choose else none)=some [e',v]:=hr
  split at hr
  .rename_i h;rw[Option.some.injEq]at hr;obtain⟨b',t,valid,known,⟨hb,hg,ha,rfl,he⟩,ho⟩:=h.choose_spec;rw[hr]at ho;simp only[List.cons.injEq,AV.ptr.injEq,and_true,true_and]at ha he ho;obtain⟨⟨rfl,rfl⟩,rfl⟩:=ha;obtain⟨rfl,rfl⟩:=he;obtain⟨rfl,rfl⟩:=ho;have hl:(t.V.map Ver.enc).length=t.V.length:=ZS4 _;refine⟨tlA t,[I t.wk],tlA<|atR t valid known,[I (atR t valid known).wk],hb,by rw[hl,ZOk],by rw[hl,ZOk,ZP8],⟨ZOQ t,rfl⟩,⟨ZOQ _,rfl⟩,rfl,?_,?_,λks vs hk hv=>?_⟩
   .unfold atV;have h1:=ZsZ<|ZO2 (ZOc t valid known).s;have h2:=ZsZ Yh;cases ZO6 valid&&ZO6 known
    .simp only[cond_false,clean,Z4,ZS3,ZSB]at h2⊢;exact h2
    .simp only[cond_true,clean,Z4,ZS3,ZSB]at h1⊢;exact h1
   .exact Zw (λv=>by have:=Zyt v;unfold Z4 at this;rw[ZS3]at this;exact this.1) t.V
   .obtain⟨g,hr⟩:=ZP9 hq t valid known hg ks vs hk hv;rw[ZOk,ZOk,ZP8]at hr;rw[hl];exact⟨g,hr⟩
  .cases hr
 .intro b t valid known hb hg;have h:∃o,O [.ptr b 0 0 8,I valid,I known] 14 (tlC (b+1) (b-1) t::t.V.map Ver.enc) o:=⟨_,b,t,valid,known,⟨hb,hg,rfl,rfl,rfl⟩,rfl⟩;show(if h:∃o,O [.ptr b 0 0 8,I valid,I known] 14 (tlC (b+1) (b-1) t::t.V.map Ver.enc) o then some h.choose else none)=_
  rw[dif_pos h];exact congrArg some<|huni _ _ _ _ _ h.choose_spec ⟨b,t,valid,known,⟨hb,hg,rfl,rfl,rfl⟩,rfl⟩
end Go.AM
namespace Go.AM
open Go
variable [REdz]
def ZNu{h:Hp}{aid b g sz bytes:Nat}{es ys:List AV}{bw ex fz:Bool}(hb:h[b]?=some (.row sz es))(hg:es.length=g)(hy:ys.isEmpty=false)(hf:ys.all (fits sz)=true)(h0:0<sz)(h1:0<bytes)(h2:(g+ys.length)*bytes<=140737488355328):
 Qt h aid fz sz bytes (.sl b g 0 g false) (.isl bw ex sz ys)=some (.sl b (g+ys.length) 0 (g+ys.length) false,[b],some (b,.row sz<|es++ys)):=by
 subst hg;have ht:List.take es.length es=es:=ZSk<|by omega
 simp only[Qt,Q2,hb,beq_self_eq_true,cond_true,ZSr,ht,Qq,ZSe,h0,h1,h2,and_self,if_true,hy,cond_false,hf,ZSR,Zs]
def ZOh(v:Ver):Ver:={v with Events:=⟨false,v.Events.l.map ZOd⟩}
def ZOq(v:Ver):Bool:=decide (v.Authority<0)||(decide (v.Authority>=64)||(decide (v.Number<1)||(decide (v.Number>200)||(!ZO6 v.At||decide ((v.Events.l.length:Int)>40)))))
def ZOb(K:List<|Int×Int)(v:Ver):Int:=bif ZOq v then 1 else bif K.any (Zvh (v.Authority,v.Number))then 8 else 0
def ZOR(t:Tldz)(v:Ver):Tldz:={s:=Yh,vl:=0,kn:=0,ev:=0,is:=false,V:=t.V++[ZOh v],wk:=t.wk}
abbrev mpK(K:List<|Int×Int):AObj:=.map (K.map plA)<|ZO K.length
abbrev adH(K:List<|Int×Int)(t:Tldz):Hp:=[mpK K,.row 14 [tlC 2 0 t],.row 8<|t.V.map Ver.enc]
def ZR7(ha:REdz.a=none)(t:Tldz)(K:List<|Int×Int)(v:Ver)(hb:ZOq v=true):∃g,fnV rE 17 [.ptr 1 0 0 1,v.enc] (adH K t)=some (I 1,adH K t++g):=by
 have hs:rE.sum 17=none:=by show REdz.a=none;exact ha
 have hD:=ZOD v.At;change pfn rE 22 [I v.At]=some (.bool<|ZO6 v.At)at hD;have hvc:=Zyt v;refine⟨[.row 8 [v.enc]],?_⟩;rw[Q6 (f:=17) hs rfl];unfold ZOq at hb;have hE:(.isl false v.Events.ex 18 (v.Events.l.map λe=>evA e):AV)=.isl false v.Events.ex 18 (v.Events.l.map λe=>evA e):=rfl
 cases d1:decide (v.Authority<0)with
 |true=>simp only[go_sem,c17,Ver.enc,d1]
 |false=>
 cases d2:decide (v.Authority>=64)with
 |true=>simp only[go_sem,c17,Ver.enc,d1,d2]
 |false=>
 cases d3:decide (v.Number<1)with
 |true=>simp only[go_sem,c17,Ver.enc,d1,d2,d3]
 |false=>
 cases d4:decide (v.Number>200)with
 |true=>simp only[go_sem,c17,Ver.enc,d1,d2,d3,d4]
 |false=>
 cases d5:ZO6 v.At with
 |false=>rw[d5]at hD;simp only[go_sem,c17,Ver.enc,d1,d2,d3,d4,hD]
 |true=>
 rw[d5]at hD;cases d6:decide ((v.Events.l.length:Int)>40)with
 |true=>simp only[go_sem,c17,Ver.enc,d1,d2,d3,d4,hD,d6,ZS4]
 |false=>rw[d1,d2,d3,d4,d5,d6]at hb;cases hb
def ZR8(ha:REdz.a=none)(t:Tldz)(K:List<|Int×Int)(v:Ver)(hb:ZOq v=false)(hv:∀e∈v.Events.l,EvL e)(hl:v.Events.l.length<=100000)(hV:t.V.length<=1000):
 ∃g,fnV rE 17 [.ptr 1 0 0 1,v.enc] (adH K t)=some (I<|ZOb K v,(bif ZOb K v==0 then adH (Qi Zvh K (v.Authority,v.Number)) (ZOR t v)else adH K t)++g):=by
 have hs:rE.sum 17=none:=by show REdz.a=none;exact ha
 have hD:=ZOD v.At;change pfn rE 22 [I v.At]=some (.bool<|ZO6 v.At)at hD;have hvc:=Zyt v;have hcE:∀M:List Event,Z4 (M.map λe=>evA e)=true:=λM=>Zw (λe=>by have:=ZwW e;unfold Z4 at this;rw[ZS3]at this;exact this.1) M
 have hcp:=ZQR v.Events.l v.Events.ex hl<|λe he=>ZQQ e<|hv e he
 unfold ZOq at hb;simp only[Bool.or_eq_false_iff,ZUg]at hb;obtain⟨d1,d2,d3,d4,d5,d6⟩:=hb;rw[d5]at hD;have hbd:ZOq v=false:=by unfold ZOq;rw[d1,d2,d3,d4,d5,d6];rfl
 unfold ZOb;rw[hbd,cond_false];have hvB:∀n,Zd n (t.V.map Ver.enc)=true:=λn=>ZN _<|Zw (λv=>by have:=Zyt v;unfold Z4 at this;rw[ZS3]at this;exact this.1) t.V
 have hKb:∀(K:List<|Int×Int)n,Zd n (K.map plA)=true/\Zd n (ZO K.length)=true:=λK n=>⟨ZN _<|Zw (λt=>rfl) K,ZN _<|Ut _⟩
 have hlv:(t.V.map Ver.enc).length=t.V.length:=ZS4 _;have hG:=λ(r:List AObj)=>H5 (ag:=true) (kk:=[1,1]) (enc:=plA) (eq:=Zvh) Zys K (v.Authority,v.Number) (h:=mpK K::r) (b:=0) rfl
 have hU:=λ(r:List AObj)=>Ur (ag:=true) (kk:=[1,1]) (enc:=plA) (eq:=Zvh) Zys K (v.Authority,v.Number) (h:=mpK K::r) (b:=0) rfl
 rw[Q6 (f:=17) hs rfl];simp only[plA]at hG hU;cases c:K.any (Zvh (v.Authority,v.Number))with
 |true=>
  simp only[c]at hG;refine⟨[.row 8 [v.enc],.row 2 [.agg [I v.Authority,I v.Number]]],?_⟩;simp only[go_sem,c17,Ver.enc,d1,d2,d3,d4,hD,d6,ZS4,tlC,hG];rfl
 |false=>
  simp only[c]at hG;have hlp:(t.V.map Ver.enc++[(ZOh v).enc])=(t.V++[ZOh v]).map Ver.enc:=by rw[ZSm];rfl
  have hap:∀(r0 r1 r3 r4:AObj),appW [r0,r1,.row 8<|t.V.map Ver.enc,r3,r4] false 8 120 (.sl 2 t.V.length 0 t.V.length false) (.isl false false 8 [(ZOh v).enc])=some (.sl 2 (t.V.length+1) 0 (t.V.length+1) false,[r0,r1,.row 8<|(t.V++[ZOh v]).map Ver.enc,r3,r4]):=λr0 r1 r3 r4=>by
   have:=XC (h:=[r0,r1,.row 8<|t.V.map Ver.enc,r3,r4]) (fz:=false) (b:=2) (g:=t.V.length) (sz:=8) (bytes:=120) (es:=t.V.map Ver.enc) (bw:=false) (ex:=false) (ys:=[(ZOh v).enc]) (by unfold rowAt;simp only[ZSI,ZSp,hlv,beq_self_eq_true,cond_true]) rfl rfl (by decide) (by decide) (by rw[ZT6];omega)
   rw[this,hlp];rfl
  refine⟨[.row 8 [(ZOh v).enc],.row 2 [.agg [I v.Authority,I v.Number]]],?_⟩;have c8:(((0:Int)==0))=true:=rfl;rw[cond_false,c8,cond_true];have hae:∀(r0 r1 r3 r4:AObj),Qt [r0,r1,.row 8<|t.V.map Ver.enc,r3,r4] 5 false 8 120 (.sl 2 t.V.length 0 t.V.length false) (.isl false false 8 [(ZOh v).enc])=some (.sl 2 (t.V.length+1) 0 (t.V.length+1) false,[2],some (2,.row 8<|(t.V++[ZOh v]).map Ver.enc)):=λr0 r1 r3 r4=>by
   have:=ZNu (h:=[r0,r1,.row 8<|t.V.map Ver.enc,r3,r4]) (aid:=5) (fz:=false) (b:=2) (g:=t.V.length) (sz:=8) (bytes:=120) (es:=t.V.map Ver.enc) (bw:=false) (ex:=false) (ys:=[(ZOh v).enc]) rfl hlv rfl rfl (by decide) (by decide) (by rw[ZT6];omega)
   rw[this,hlp];rfl
  have hvB2:∀n,Zd n ((t.V++[ZOh v]).map Ver.enc)=true:=λn=>ZN _<|Zw (λv=>by have:=Zyt v;unfold Z4 at this;rw[ZS3]at this;exact this.1) _
  have hcv:=Zyt<|ZOh v;simp only[ZOh,Ver.enc]at hap hcv hae;simp only[ZOh,adH,ZOR,Ver.enc]at*;generalize(t.V++[_]).map _=Ve at*;simp only[go_sem,c17,d1,d2,d3,d4,hD,d6,ZS4,tlC,hG,hU,hcp,hap,hae,wrB,ZSE,hvB,hvB2,hKb];rfl
end Go.AM
namespace Go.AM
open Go
structure AdG(t:Tldz)(v:Ver):Prop where
 ev:∀e∈v.Events.l,EvL e
 len:v.Events.l.length<=100000
 V:t.V.length<=1000
def adT(K:List<|Int×Int)(t:Tldz)(v:Ver):Tldz:=bif ZOb K v==0 then ZOR t v else t
def adK(K:List<|Int×Int)(v:Ver):List (Int×Int):=bif ZOb K v==0 then Qi Zvh K (v.Authority,v.Number)else K
def ZPa[REdz](ha:REdz.a=none)(t:Tldz)(K:List<|Int×Int)(v:Ver)(h:AdG t v):∃g,fnV rE 17 [.ptr 1 0 0 1,v.enc] (adH K t)=some (I<|ZOb K v,adH (adK K v) (adT K t v)++g):=by
 cases hb:ZOq v with
 |true=>
  obtain⟨g,hg⟩:=ZR7 ha t K v hb;have e:ZOb K v=1:=by unfold ZOb;rw[hb,cond_true]
  have c:((1:Int)==0)=false:=rfl;refine⟨g,?_⟩;unfold adK adT;rw[e,c,cond_false,cond_false];exact hg
 |false=>
  obtain⟨g,hg⟩:=ZR8 ha t K v hb h.ev h.len h.V;refine⟨g,?_⟩;unfold adK adT;rw[hg];cases(ZOb K v==0)<;>rfl
def ZR9{a b:Int×Int}(h:plA a=plA b):a=b:=by
 unfold plA at h;simp only[AV.agg.injEq,List.cons.injEq,AV.int.injEq,and_true,true_and]at h;exact Prod.ext h.1 h.2
def ZPZ:∀{a b:List (Int×Int)},a.map plA=b.map plA->a=b
 |[],[],_=>rfl
 |[],_::_,h=>by cases h
 |_::_,[],h=>by cases h
 |x::a,y::b,h=>by
  simp only[ZS9,List.cons.injEq]at h;rw[ZR9 h.1,ZPZ h.2]
def ZRa[REdz](ha:REdz.a=none):∃s:Nat->List AV->Nat->Nat->AV->List AV->List AV->List AV->Option (AV×AObj×AObj×AObj),ZPX rE 17 s/\
 ∀b t K v,0<b->AdG t v->s b [v.enc] 14 8 (tlC (b+1) (b-1) t) (t.V.map Ver.enc) (K.map plA) (ZO K.length) =
  some (I<|ZOb K v,mpK<|adK K v,.row 14 [tlC (b+1) (b-1)<|adT K t v],.row 8<|(adT K t v).V.map Ver.enc):=by
 classical
 let O:Nat->List AV->Nat->Nat->AV->List AV->List AV->List AV->(AV×AObj×AObj×AObj)->Prop:=λb r sz sz2 e es ks vs o=>∃t K v,(0<b/\AdG t v/\r=[v.enc]/\sz=14/\sz2=8/\e=tlC (b+1) (b-1) t/\es=t.V.map Ver.enc/\ks=K.map plA/\vs=ZO K.length)/\
  o=(I<|ZOb K v,mpK<|adK K v,.row 14 [tlC (b+1) (b-1)<|adT K t v],.row 8<|(adT K t v).V.map Ver.enc)
 have huni:∀b r sz sz2 e es ks vs o o',O b r sz sz2 e es ks vs o->O b r sz sz2 e es ks vs o'->o=o':=by
  rintro b r sz sz2 e es ks vs o o' ⟨t,K,v,⟨hb,hg,rfl,rfl,rfl,rfl,rfl,rfl,rfl⟩,rfl⟩ ⟨t',K',v',⟨_,hg',hv,_,_,he,hes,hks,_⟩,rfl⟩;have hK:=ZPZ hks;subst hK;obtain⟨g,hr⟩:=ZPa ha t K v hg;obtain⟨g',hr'⟩:=ZPa ha t' K v' hg';unfold adH at hr hr';rw[hv,ZOY he 2 0,hes,hr',Option.some.injEq,Prod.mk.injEq]at hr;have h2:=hr.2;simp only[ZS8,ZSa,List.cons.injEq,AObj.row.injEq,and_true,true_and]at h2;rw[hr.1,h2.1,ZOY h2.2.1 (b+1)<|b-1,h2.2.2.1]
 refine⟨λb r sz sz2 e es ks vs=>if h:∃o,O b r sz sz2 e es ks vs o then some h.choose else none,?_,?_⟩
 .intro b r sz sz2 e es ks vs v0 o0 o1 o2 hr;have hr:(if h:∃o,O b r sz sz2 e es ks vs o then some h.choose else none)=some (v0,o0,o1,o2):=hr
  split at hr
  .rename_i h;rw[Option.some.injEq]at hr;obtain⟨t,K,v,⟨hb,hg,rfl,rfl,rfl,rfl,rfl,rfl,rfl⟩,ho⟩:=h.choose_spec;rw[hr]at ho;simp only[Prod.mk.injEq]at ho;obtain⟨rfl,rfl,rfl,rfl⟩:=ho;have hl:∀l:List Ver,(l.map Ver.enc).length=l.length:=λl=>ZS4 _
   have hvc:∀l:List Ver,Z4 (l.map Ver.enc)=true:=λl=>Zw (λv=>by have:=Zyt v;unfold Z4 at this;rw[ZS3]at this;exact this.1) l
   have hkc:∀l:List<|Int×Int,Z4 (l.map plA)=true:=λl=>Zw (λ_=>rfl) l
   obtain⟨g,hr⟩:=ZPa ha t K v hg;refine⟨tlA t,[I t.wk],tlA<|adT K t v,[I (adT K t v).wk],_,_,_,hb,by rw[hl,ZOk],⟨rfl,by rw[hl,ZOk],rfl⟩,⟨hkc K,Ut _,hvc _,ZOQ t,rfl⟩,⟨hkc _,Ut _,hvc _,ZOQ _,rfl⟩,Zyt v,rfl,g,?_⟩
   rw[hl,hl];unfold adH at hr;rw[ZOk,ZOk]at hr;exact hr
  .cases hr
 .intro b t K v hb hg;have h:∃o,O b [v.enc] 14 8 (tlC (b+1) (b-1) t) (t.V.map Ver.enc) (K.map plA) (ZO K.length) o:=⟨_,t,K,v,⟨hb,hg,rfl,rfl,rfl,rfl,rfl,rfl,rfl⟩,rfl⟩;show(if h:∃o,O b [v.enc] 14 8 (tlC (b+1) (b-1) t) (t.V.map Ver.enc) (K.map plA) (ZO K.length) o then some h.choose else none)=_
  rw[dif_pos h];exact congrArg some<|huni _ _ _ _ _ _ _ _ _ _ h.choose_spec ⟨t,K,v,⟨hb,hg,rfl,rfl,rfl,rfl,rfl,rfl,rfl⟩,rfl⟩
variable [REdz]
structure LawE:Prop where
 q:∃s,REdz.q=some s/\∀b t valid known,0<b->TlG t valid known->s [.ptr b 0 0 8,I valid,I known] 14 (tlC (b+1) (b-1) t::t.V.map Ver.enc)=some [tlC (b+1) (b-1)<|atR t valid known,atV t valid known]
 a:∃s,REdz.a=some (ZOz s)/\∀b t K v,0<b->AdG t v->s b [v.enc] 14 8 (tlC (b+1) (b-1) t) (t.V.map Ver.enc) (K.map plA) (ZO K.length) =
  some (I<|ZOb K v,mpK<|adK K v,.row 14 [tlC (b+1) (b-1)<|adT K t v],.row 8<|(adT K t v).V.map Ver.enc)
def ZQ0(hE:LawE){h:Hp}{b:Nat}{t:Tldz}{K:List (Int×Int)}(hb':0<b)(hb:h[b]?=some (.row 14 [tlC (b+1) (b-1) t]))(hb1:h[b+1]?=some (.row 8<|t.V.map Ver.enc))(hb0:h[b-1]?=some (mpK K))(valid known:Int)(hg:TlG t valid known):
 ∃s,rE.rs 13=some s/\ZE8 s h [.ptr b 0 0 1,I valid,I known]=some (atV t valid known,some (b,.row 14 [tlC (b+1) (b-1)<|atR t valid known])):=by
 obtain⟨s,h1,h2⟩:=hE.q;refine⟨s,by show(bif Nat.beq 13 13 then REdz.q else none)=some s;rw[h1];rfl,?_⟩
 have hK:(Z4 (K.map plA)&&Z4 (ZO K.length))=true:=by rw[Zw (λ_=>rfl) K,Ut];rfl
 unfold ZE8;simp only[hb,hb1,hb0,hK,cond_true,h2 b t valid known hb' hg]
def ZQ1(hE:LawE){h:Hp}{b:Nat}{t:Tldz}{K:List (Int×Int)}(hb':0<b)(hb:h[b]?=some (.row 14 [tlC (b+1) (b-1) t]))(hb1:h[b+1]?=some (.row 8<|t.V.map Ver.enc))(hb0:h[b-1]?=some (mpK K))(valid known:Int)(hg:TlG t valid known):
 fnV rE 13 [.ptr b 0 0 1,I valid,I known] h=some (atV t valid known,setH h b<|.row 14 [tlC (b+1) (b-1)<|atR t valid known]):=by
 obtain⟨s,h1,h2⟩:=ZQ0 hE hb' hb hb1 hb0 valid known hg;have h3:rE.sum 13=some (ZEo s):=by
  have h1:REdz.q=some s:=h1;show REdz.q.map ZEo=some (ZEo s)
  rw[h1];rfl
 rw[V8 h3];unfold ZEo;rw[h2];rfl
def ZOZ(hE:LawE){h:Hp}{b:Nat}{t:Tldz}{K:List (Int×Int)}(hb':0<b)(hb:h[b]?=some (.row 14 [tlC (b+1) (b-1) t]))(hb1:h[b+1]?=some (.row 8<|t.V.map Ver.enc))(hb0:h[b-1]?=some (mpK K))(v:Ver)(hg:AdG t v):
 fnV rE 17 [.ptr b 0 0 1,v.enc] h=some (I<|ZOb K v,ZOi h b (mpK<|adK K v) (.row 14 [tlC (b+1) (b-1)<|adT K t v])<|.row 8<|(adT K t v).V.map Ver.enc):=by
 obtain⟨s,h1,h2⟩:=hE.a;have h3:rE.sum 17=some (ZOz s):=h1;rw[V8 h3];unfold ZOz;simp only[hb,hb1,hb0,h2 b t K v hb' hg,ZSE]
def ZOS(t:Tldz)(c:AV)(d:AV):pfn rE 15 [.iptr true [.isl false false 6<|t.s.Regions.map Region.enc,.isl false false 5<|t.s.Streets.map Street.enc,.isl false false 4<|t.s.Buildings.map Building.enc,.isl false false 16<|t.s.Doors.map Door.enc,
 .isl false false 6 (t.s.Units.map Unit'.enc),.isl false false 2<|t.s.Merged.map Pair.enc,.isl false false 2<|t.s.Rulings.map Pair.enc,I t.vl,I t.kn,I t.ev,.bool t.is,c,d,I t.wk]]=some (I t.wk):=by
 rw[Z5 (f:=15) rfl rfl];simp only[go_sem,c15]
def tl0:Tldz:=⟨Yh,0,0,0,false,[],0⟩
def ZOe(x:List (Int×Int)×Tldz×List Ver)(v:Ver):List (Int×Int)×Tldz×List Ver:=(adK x.1 v,adT x.1 x.2.1 v,bif ZOb x.1 v==0 then x.2.2++[v]else x.2.2)
def ZO3(l:List Ver):List (Int×Int)×Tldz×List Ver:=l.foldl ZOe ([],tl0,[])
def nwC(m:Nat):List AV:=[.isl false false 6 [],.isl false false 5 [],.isl false false 4 [],.isl false false 16 [],.isl false false 6 [],.isl false false 2 [],.isl false false 2 [],.int .i64 0,.int .i64 0,.int .i64 0,.bool false,.nilsl,.mp m,.int .i64 0]
def ZO4(back:Bool)(l:List Ver):List Ver:=bif back then l.reverse else l
def ZP0(back:Bool)(l:List Ver):(ZO4 back l).length=l.length:=by cases back<;>simp[ZO4]
def ZQ2{back:Bool}{l:List Ver}{v:Ver}(h:v∈ZO4 back l):v∈l:=by cases back<;>simpa[ZO4]using h
def ZOx(L:List Ver):Z4 (L.map Ver.enc)=true:=Zw (λv=>by have:=Zyt v;unfold Z4 at this;rw[ZS3]at this;exact this.1) L
def ZOr(n x m:Nat)(t:Tldz)(h1:x<n)(h2:m<n):bel n (tlC x m t)=true:=by
 have h3:Zd n (tlA t)=true:=ZN _<|ZOQ t;rw[ZOk];unfold stc;show Zd n (tlA t++.sl x t.V.length 0 t.V.length false::.mp m::[I t.wk])=true
 rw[Z0T,h3];have h4:Nat.blt x n=true:=by simpa using h1
 have h5:Nat.blt m n=true:=by simpa using h2
 show(Nat.blt x n&&(Nat.blt m n&&true))=true
 rw[h4,h5];rfl
def ZRb(x:List (Int×Int)×Tldz×List Ver)(v:Ver):(ZOe x v).2.1.V.length<=x.2.1.V.length+1/\(ZOe x v).2.2.length<=x.2.2.length+1:=by
 unfold ZOe adT;cases ZOb x.1 v==0 with
 |false=>exact⟨ZTb _,ZTb _⟩
 |true=>exact⟨by simp[ZOR],by simp⟩
def ZPb:∀(l:List Ver)(x:List (Int×Int)×Tldz×List Ver),(l.foldl ZOe x).2.1.V.length<=x.2.1.V.length+l.length/\(l.foldl ZOe x).2.2.length<=x.2.2.length+l.length
 |[],x=>⟨ZS6 _,ZS6 _⟩
 |v::l,x=>by
  have h1:=ZPb l<|ZOe x v;have h2:=ZRb x v;rw[ZSy,ZSu];omega
def ZQ3(l:List Ver):(ZO3 l).2.1.V.length<=l.length/\(ZO3 l).2.2.length<=l.length:=by
 have h1:(ZO3 l).2.1.V.length<=0+l.length:=(ZPb l _).1;have h2:(ZO3 l).2.2.length<=0+l.length:=(ZPb l _).2;omega
def ZRc(hE:LawE){w:Bool}(V:NL Ver)(back:Bool)(hV:V.l.length<=100)(hG:∀v∈V.l,(∀e∈v.Events.l,EvL e)/\v.Events.l.length<=100000):
 fnV rE 12 [vsA w V,.bool back] []=some (.tup [.ptr 1 0 0 1,.sl 3 (ZO3<|ZO4 back V.l).2.2.length 0 (ZO3<|ZO4 back V.l).2.2.length false],
  [mpK<|(ZO3<|ZO4 back V.l).1,.row 14 [tlC 2 0<|(ZO3<|ZO4 back V.l).2.1],.row 8<|((ZO3<|ZO4 back V.l).2.1).V.map Ver.enc,.row 8<|((ZO3<|ZO4 back V.l).2.2).map Ver.enc]):=by
 have hvc:=λ(L:List Ver)=>ZOx L
 have hvB:∀(L:List Ver)n,Zd n (L.map Ver.enc)=true:=λL n=>ZN _<|hvc L
 have hKb:∀(K:List<|Int×Int)n,Zd n (K.map plA)=true/\Zd n (ZO K.length)=true:=λK n=>⟨ZN _<|Zw (λt=>rfl) K,ZN _<|Ut _⟩
 have hT:=λ(t:Tldz)(n:Nat)(h1:2<n)=>ZOr n 2 0 t h1<|by omega
 have hlen:∀i,((ZO4 back V.l).take i).length<=100:=λi=>by rw[ZSD,ZP0];omega
 have hol:=ZP0 back V.l;have L:=Y8 (E:=rE) (live:=[0,1,6,7,8]) (b:=c12L0b) V.l.length (λi=>[(0,vsA w V),(1,.bool back),(6,.ptr 1 0 0 1),(7,.sl 3 (ZO3<|(ZO4 back V.l).take i).2.2.length 0 (ZO3<|(ZO4 back V.l).take i).2.2.length false),(8,I i)])
  (λi=>[mpK<|(ZO3<|(ZO4 back V.l).take i).1,.row 14 [tlC 2 0<|(ZO3<|(ZO4 back V.l).take i).2.1],.row 8<|((ZO3<|(ZO4 back V.l).take i).2.1).V.map Ver.enc,.row 8<|((ZO3<|(ZO4 back V.l).take i).2.2).map Ver.enc]) (λi=>rfl)
  (λi hi=>by
   obtain⟨v0,h0⟩:∃v,V.l[i]?=some v:=⟨_,ZS5 hi⟩;obtain⟨v,hv⟩:∃v,(ZO4 back V.l)[i]?=some v:=⟨_,ZS5<|by omega⟩
   have hmem:v∈V.l:=ZQ2<|ZSd hv;have hg0:=Z6 (f:=Ver.enc) h0;have hi':=Zh hi;have hwr:=Zx (n:=i)<|by omega
   have hst:ZO3 ((ZO4 back V.l).take (i+1))=ZOe (ZO3<|(ZO4 back V.l).take i) v:=by unfold ZO3;exact Us _ _ hv
   have hsz:=ZQ3<|(ZO4 back V.l).take i;have hl:=hlen i;rw[hst];generalize ZO3 ((ZO4 back V.l).take i)=y at*;obtain⟨K,t,out⟩:=y;unfold ZOe;dsimp only at hsz⊢;have hg:AdG t v:=⟨(hG v hmem).1,(hG v hmem).2,by omega⟩
   have hC:=λ(v':AV)=>ZOZ hE (h:=[mpK<|K,.row 14 [tlC 2 0<|t],.row 8<|(t).V.map Ver.enc,.row 8<|(out).map Ver.enc,.row 8 [v']]) (b:=1) (t:=t) (K:=K) (by decide) rfl rfl rfl v hg
   have hl2:(out.map Ver.enc++[v.enc])=(out++[v]).map Ver.enc:=by rw[ZSm];rfl
   have hlo:(out.map Ver.enc).length=out.length:=ZS4 _;have hap:∀(K:List<|Int×Int)(t:Tldz)(x:AV),appW [mpK<|K,.row 14 [tlC 2 0<|t],.row 8<|(t).V.map Ver.enc,.row 8<|(out).map Ver.enc,.row 8 [x]] false 8 120 (.sl 3 out.length 0 out.length false) (.isl false false 8 [v.enc])=some (.sl 3 (out.length+1) 0 (out.length+1) false,[mpK<|K,.row 14 [tlC 2 0<|t],.row 8<|(t).V.map Ver.enc,.row 8<|(out++[v]).map Ver.enc,.row 8 [x]]):=λK t x=>by
    have:=XC (h:=[mpK<|K,.row 14 [tlC 2 0<|t],.row 8<|(t).V.map Ver.enc,.row 8<|(out).map Ver.enc,.row 8 [x]]) (fz:=false) (b:=3) (g:=out.length) (sz:=8) (bytes:=120) (es:=out.map Ver.enc) (bw:=false) (ex:=false) (ys:=[v.enc]) (by unfold rowAt;simp only[ZSI,ZSp,hlo,beq_self_eq_true,cond_true]) rfl rfl (by decide) (by decide) (by rw[ZT6];omega)
    rw[this,hl2];rfl
   refine⟨[(0,vsA w V),(1,.bool back),(6,.ptr 1 0 0 1),(7,.sl 3 (bif ZOb K v==0 then out++[v]else out).length 0 (bif ZOb K v==0 then out++[v]else out).length false),(8,I (i+1:Nat))],?_,rfl⟩;have hbv:∀v:Ver,Z4 [v.enc]=true:=Zyt;have hbb:∀(v:Ver)n,Zd n [v.enc]=true:=λv n=>ZN _<|Zyt v
   have q1:=hT t 4<|by decide
   have q2:=hT t 5<|by decide
   have q3:=hT (adT K t v) 4<|by decide
   have q4:=hT (adT K t v) 5<|by decide
   have hfit:∀v:Ver,fits 8 v.enc=true:=λv=>rfl
   have hld:∀(v:Ver),takeC (some 8) v.enc.cells=some v.enc:=λv=>rfl
   have hgp:(ZOb K v==0)=false\/(ZOb K v==0)=true:=by cases(ZOb K v==0)<;>simp
   cases back with
   |false=>
    have hvv:v=v0:=by
     have h9:V.l[i]?=some v:=hv;rw[h0]at h9;exact(Option.some.inj h9).symm
    subst hvv;rcases hgp with c|c
    .rw[c,cond_false];simp only[ZOi,Ver.enc]at hC hap hbb hg0;simp only[go_sem,c12L0b,hg0,hi',hwr,hC,c,hvB,hKb,hbb,q1,q3,q4]
    .rw[c,cond_true];simp only[ZOi,Ver.enc]at hC hap hbb hg0;simp only[go_sem,c12L0b,hg0,hi',hwr,hC,c,hap,hvB,hKb,hbb,q1,q3,q4]
   |true=>
    obtain⟨hix,hvx⟩:(IntKind.i64.wrap (IntKind.i64.wrap ((V.l.length:Int)-1)-(i:Int))=((V.l.length-1-i:Nat):Int))/\V.l[V.l.length-1-i]?=some v:=by
     constructor
     .have e1:IntKind.i64.wrap ((V.l.length:Int)-1)=(V.l.length:Int)-1:=YM (by omega) (by omega)
      rw[e1,YM (by omega)<|by omega];omega
     .have h9:V.l.reverse[i]?=some v:=hv;rw[ZUF hi]at h9;exact h9
    have hgx:=Z6 (f:=Ver.enc) hvx;rcases hgp with c|c
    .rw[c,cond_false];simp only[ZOi,Ver.enc]at hC hap hbb hg0 hgx;simp only[go_sem,c12L0b,hg0,hgx,hix,hi',hwr,hC,c,hvB,hKb,hbb,q1,q2,q3,q4]
    .rw[c,cond_true];simp only[ZOi,Ver.enc]at hC hap hbb hg0 hgx;simp only[go_sem,c12L0b,hg0,hgx,hix,hi',hwr,hC,c,hap,hvB,hKb,hbb,q1,q2,q3,q4])
  (e:=.exit 0) (fr:=[(0,vsA w V),(1,.bool back),(6,.ptr 1 0 0 1),(7,.sl 3 (ZO3<|ZO4 back V.l).2.2.length 0 (ZO3<|ZO4 back V.l).2.2.length false),(8,I V.l.length)])
  (h:=[mpK<|(ZO3<|ZO4 back V.l).1,.row 14 [tlC 2 0<|(ZO3<|ZO4 back V.l).2.1],.row 8<|((ZO3<|ZO4 back V.l).2.1).V.map Ver.enc,.row 8<|((ZO3<|ZO4 back V.l).2.2).map Ver.enc]) (by
   rw[ZSk<|by omega]
   have q1:=hT (ZO3<|ZO4 back V.l).2.1 4 (by decide)
   simp only[go_sem,c12L0b,ZG,hvB,hKb,q1]) (by simp)
 have L':Zg rE [0,1,6,7,8] c12L0b [(0,vsA w V),(1,.bool back),(6,.ptr 1 0 0 1),(7,.sl 3 0 0 0 false),(8,.int .i64 0)] [.map [] [],.row 14 [tlC 2 0 tl0],.row 8 [],.row 8 []]=_:=L;have hN:fnV rE 21 [] []=some (.ptr 1 0 0 1,[.map [] [],.row 14 [tlC 2 0 tl0],.row 8 []]):=by
  rw[Q6 (f:=21) rfl rfl];have h1:fits 14 (.agg<|nwC 0)=true:=rfl;have h2:Z4 (nwC 0)=false:=rfl;have h3:Zi (nwC 0)=false:=rfl;unfold nwC at h1 h2 h3;simp only[go_sem,c21,h1,h2,h3];rfl
 have q0:=hT tl0 4<|by decide
 have q1:=hT (ZO3<|ZO4 back V.l).2.1 4 (by decide)
 rw[Q6 (f:=12) rfl rfl];generalize ZO3 (ZO4 back V.l)=y at*;obtain⟨K,t,out⟩:=y;simp only[go_sem,c12,c12L0,hN,L',hvB,hKb,q1]
def ZRd(hE:LawE)(p0 p1 p2 p3:AObj)(hp0:∀n,4<=n->Zj n p0=true)(hp1:∀n,4<=n->Zj n p1=true)(hp2:∀n,4<=n->Zj n p2=true)(hp3:∀n,4<=n->Zj n p3=true){w:Bool}(V:NL Ver)(back:Bool)(hV:V.l.length<=100)(hG:∀v∈V.l,(∀e∈v.Events.l,EvL e)/\v.Events.l.length<=100000):
 fnV rE 12 [vsA w V,.bool back] [p0,p1,p2,p3]=some (.tup [.ptr 5 0 0 1,.sl 7 (ZO3<|ZO4 back V.l).2.2.length 0 (ZO3<|ZO4 back V.l).2.2.length false],
  [p0,p1,p2,p3,mpK<|(ZO3<|ZO4 back V.l).1,.row 14 [tlC 6 4<|(ZO3<|ZO4 back V.l).2.1],.row 8<|((ZO3<|ZO4 back V.l).2.1).V.map Ver.enc,.row 8<|((ZO3<|ZO4 back V.l).2.2).map Ver.enc]):=by
 have hvc:=λ(L:List Ver)=>ZOx L
 have hvB:∀(L:List Ver)n,Zd n (L.map Ver.enc)=true:=λL n=>ZN _<|hvc L
 have hKb:∀(K:List<|Int×Int)n,Zd n (K.map plA)=true/\Zd n (ZO K.length)=true:=λK n=>⟨ZN _<|Zw (λt=>rfl) K,ZN _<|Ut _⟩
 have hT:=λ(t:Tldz)(n:Nat)(h1:6<n)=>ZOr n 6 4 t h1<|by omega
 have hlen:∀i,((ZO4 back V.l).take i).length<=100:=λi=>by rw[ZSD,ZP0];omega
 have hol:=ZP0 back V.l;have L:=Y8 (E:=rE) (live:=[0,1,6,7,8]) (b:=c12L0b) V.l.length (λi=>[(0,vsA w V),(1,.bool back),(6,.ptr 5 0 0 1),(7,.sl 7 (ZO3<|(ZO4 back V.l).take i).2.2.length 0 (ZO3<|(ZO4 back V.l).take i).2.2.length false),(8,I i)])
  (λi=>[p0,p1,p2,p3,mpK<|(ZO3<|(ZO4 back V.l).take i).1,.row 14 [tlC 6 4<|(ZO3<|(ZO4 back V.l).take i).2.1],.row 8<|((ZO3<|(ZO4 back V.l).take i).2.1).V.map Ver.enc,.row 8<|((ZO3<|(ZO4 back V.l).take i).2.2).map Ver.enc]) (λi=>rfl)
  (λi hi=>by
   obtain⟨v0,h0⟩:∃v,V.l[i]?=some v:=⟨_,ZS5 hi⟩;obtain⟨v,hv⟩:∃v,(ZO4 back V.l)[i]?=some v:=⟨_,ZS5<|by omega⟩
   have hmem:v∈V.l:=ZQ2<|ZSd hv;have hg0:=Z6 (f:=Ver.enc) h0;have hi':=Zh hi;have hwr:=Zx (n:=i)<|by omega
   have hst:ZO3 ((ZO4 back V.l).take (i+1))=ZOe (ZO3<|(ZO4 back V.l).take i) v:=by unfold ZO3;exact Us _ _ hv
   have hsz:=ZQ3<|(ZO4 back V.l).take i;have hl:=hlen i;rw[hst];generalize ZO3 ((ZO4 back V.l).take i)=y at*;obtain⟨K,t,out⟩:=y;unfold ZOe;dsimp only at hsz⊢;have hg:AdG t v:=⟨(hG v hmem).1,(hG v hmem).2,by omega⟩
   have hC:=λ(v':AV)=>ZOZ hE (h:=[p0,p1,p2,p3,mpK<|K,.row 14 [tlC 6 4<|t],.row 8<|(t).V.map Ver.enc,.row 8<|(out).map Ver.enc,.row 8 [v']]) (b:=5) (t:=t) (K:=K) (by decide) rfl rfl rfl v hg
   have hl2:(out.map Ver.enc++[v.enc])=(out++[v]).map Ver.enc:=by rw[ZSm];rfl
   have hlo:(out.map Ver.enc).length=out.length:=ZS4 _;have hap:∀(K:List<|Int×Int)(t:Tldz)(x:AV),appW [p0,p1,p2,p3,mpK<|K,.row 14 [tlC 6 4<|t],.row 8<|(t).V.map Ver.enc,.row 8<|(out).map Ver.enc,.row 8 [x]] false 8 120 (.sl 7 out.length 0 out.length false) (.isl false false 8 [v.enc])=some (.sl 7 (out.length+1) 0 (out.length+1) false,[p0,p1,p2,p3,mpK<|K,.row 14 [tlC 6 4<|t],.row 8<|(t).V.map Ver.enc,.row 8<|(out++[v]).map Ver.enc,.row 8 [x]]):=λK t x=>by
    have:=XC (h:=[p0,p1,p2,p3,mpK<|K,.row 14 [tlC 6 4<|t],.row 8<|(t).V.map Ver.enc,.row 8<|(out).map Ver.enc,.row 8 [x]]) (fz:=false) (b:=7) (g:=out.length) (sz:=8) (bytes:=120) (es:=out.map Ver.enc) (bw:=false) (ex:=false) (ys:=[v.enc]) (by unfold rowAt;simp only[ZSI,ZSp,hlo,beq_self_eq_true,cond_true]) rfl rfl (by decide) (by decide) (by rw[ZT6];omega)
    rw[this,hl2];rfl
   refine⟨[(0,vsA w V),(1,.bool back),(6,.ptr 5 0 0 1),(7,.sl 7 (bif ZOb K v==0 then out++[v]else out).length 0 (bif ZOb K v==0 then out++[v]else out).length false),(8,I (i+1:Nat))],?_,rfl⟩;have hbv:∀v:Ver,Z4 [v.enc]=true:=Zyt;have hbb:∀(v:Ver)n,Zd n [v.enc]=true:=λv n=>ZN _<|Zyt v
   have q1:=hT t 8<|by decide
   have q2:=hT t 9<|by decide
   have q3:=hT (adT K t v) 8<|by decide
   have q4:=hT (adT K t v) 9<|by decide
   have hfit:∀v:Ver,fits 8 v.enc=true:=λv=>rfl
   have hld:∀(v:Ver),takeC (some 8) v.enc.cells=some v.enc:=λv=>rfl
   have hgp:(ZOb K v==0)=false\/(ZOb K v==0)=true:=by cases(ZOb K v==0)<;>simp
   cases back with
   |false=>
    have hvv:v=v0:=by
     have h9:V.l[i]?=some v:=hv;rw[h0]at h9;exact(Option.some.inj h9).symm
    subst hvv;rcases hgp with c|c
    .rw[c,cond_false];simp only[ZOi,Ver.enc]at hC hap hbb hg0;simp only[go_sem,c12L0b,hg0,hi',hwr,hC,c,hvB,hKb,hbb,q1,q3,q4,hp0 8 (by decide),hp0 9 (by decide),hp1 8 (by decide),hp1 9 (by decide),hp2 8 (by decide),hp2 9 (by decide),hp3 8 (by decide),hp3 9<|by decide]
    .rw[c,cond_true];simp only[ZOi,Ver.enc]at hC hap hbb hg0;simp only[go_sem,c12L0b,hg0,hi',hwr,hC,c,hap,hvB,hKb,hbb,q1,q3,q4,hp0 8 (by decide),hp0 9 (by decide),hp1 8 (by decide),hp1 9 (by decide),hp2 8 (by decide),hp2 9 (by decide),hp3 8 (by decide),hp3 9<|by decide]
   |true=>
    obtain⟨hix,hvx⟩:(IntKind.i64.wrap (IntKind.i64.wrap ((V.l.length:Int)-1)-(i:Int))=((V.l.length-1-i:Nat):Int))/\V.l[V.l.length-1-i]?=some v:=by
     constructor
     .have e1:IntKind.i64.wrap ((V.l.length:Int)-1)=(V.l.length:Int)-1:=YM (by omega) (by omega)
      rw[e1,YM (by omega)<|by omega];omega
     .have h9:V.l.reverse[i]?=some v:=hv;rw[ZUF hi]at h9;exact h9
    have hgx:=Z6 (f:=Ver.enc) hvx;rcases hgp with c|c
    .rw[c,cond_false];simp only[ZOi,Ver.enc]at hC hap hbb hg0 hgx;simp only[go_sem,c12L0b,hg0,hgx,hix,hi',hwr,hC,c,hvB,hKb,hbb,q1,q2,q3,q4,hp0 8 (by decide),hp0 9 (by decide),hp1 8 (by decide),hp1 9 (by decide),hp2 8 (by decide),hp2 9 (by decide),hp3 8 (by decide),hp3 9<|by decide]
    .rw[c,cond_true];simp only[ZOi,Ver.enc]at hC hap hbb hg0 hgx;simp only[go_sem,c12L0b,hg0,hgx,hix,hi',hwr,hC,c,hap,hvB,hKb,hbb,q1,q2,q3,q4,hp0 8 (by decide),hp0 9 (by decide),hp1 8 (by decide),hp1 9 (by decide),hp2 8 (by decide),hp2 9 (by decide),hp3 8 (by decide),hp3 9<|by decide])
  (e:=.exit 0) (fr:=[(0,vsA w V),(1,.bool back),(6,.ptr 5 0 0 1),(7,.sl 7 (ZO3<|ZO4 back V.l).2.2.length 0 (ZO3<|ZO4 back V.l).2.2.length false),(8,I V.l.length)])
  (h:=[p0,p1,p2,p3,mpK<|(ZO3<|ZO4 back V.l).1,.row 14 [tlC 6 4<|(ZO3<|ZO4 back V.l).2.1],.row 8<|((ZO3<|ZO4 back V.l).2.1).V.map Ver.enc,.row 8<|((ZO3<|ZO4 back V.l).2.2).map Ver.enc]) (by
   rw[ZSk<|by omega]
   have q1:=hT (ZO3<|ZO4 back V.l).2.1 8 (by decide)
   simp only[go_sem,c12L0b,ZG,hvB,hKb,q1,hp0 8 (by decide),hp1 8 (by decide),hp2 8 (by decide),hp3 8<|by decide]) (by simp)
 have L':Zg rE [0,1,6,7,8] c12L0b [(0,vsA w V),(1,.bool back),(6,.ptr 5 0 0 1),(7,.sl 7 0 0 0 false),(8,.int .i64 0)] [p0,p1,p2,p3,.map [] [],.row 14 [tlC 6 4 tl0],.row 8 [],.row 8 []]=_:=L;have hN:fnV rE 21 [] [p0,p1,p2,p3]=some (.ptr 5 0 0 1,[p0,p1,p2,p3,.map [] [],.row 14 [tlC 6 4 tl0],.row 8 []]):=by
  rw[Q6 (f:=21) rfl rfl];have h1:fits 14 (.agg<|nwC 4)=true:=rfl;have h2:Z4 (nwC 4)=false:=rfl;have h3:Zi (nwC 4)=false:=rfl;unfold nwC at h1 h2 h3;simp only[go_sem,c21,h1,h2,h3];rfl
 have q0:=hT tl0 8<|by decide
 have q1:=hT (ZO3<|ZO4 back V.l).2.1 8 (by decide)
 rw[Q6 (f:=12) rfl rfl];generalize ZO3 (ZO4 back V.l)=y at*;obtain⟨K,t,out⟩:=y;simp only[go_sem,c12,c12L0,hN,L',hvB,hKb,q1,hp0 8 (by decide),hp1 8 (by decide),hp2 8 (by decide),hp3 8<|by decide]
def exA:Event:={zEv with Kind:=1,A:=1,Id:=B [109],Path:=⟨false,[⟨0,0⟩,⟨9,0⟩,⟨9,9⟩,⟨0,9⟩]⟩}
def exS(d:Int)(id:Str):Event:={zEv with Kind:=2,Day:=d,Id:=id,Path:=⟨false,[⟨1,1⟩,⟨2,2⟩]⟩}
def exV:Ver:=⟨1,1,0,emp,⟨false,[exA,exS 2<|B [115],exS 4<|B [116]]⟩,0,⟨false,[]⟩,⟨false,[]⟩⟩
def ZqW:pfn rE 39 []=some exV.enc:=by
 rw[Z5 (f:=39) rfl rfl];simp only[go_sem,c39];rfl
def exT:Tldz:=⟨Yh,0,0,0,false,[exV],0⟩
def ZPc:ZOb [] exV=0:=by decide +kernel
def ZPd:ZOb [(1,1)] exV=8:=by decide +kernel
def ZOs:Zr3 [exV] 3 9=[(0,0),(0,1)]:=by decide +kernel
def ZOw:Zr3 [exV] 4 9=[(0,0),(0,1),(0,2)]:=by decide +kernel
def ZPe:Zr3 [exV] 3 8=[(0,0),(0,1)]:=by decide +kernel
def ZRe:Sta:=Zvx Yh 1 exA
def ZOn:Sta:=Zvx ZRe 1<|exS 2<|B [115]
def ZOo:Sta:=Zvx ZOn 1<|exS 4<|B [116]
def ZRf:ZvT [exV] 16=true:=by decide +kernel
def ZRg:ZOn.Streets.length=1:=by decide +kernel
def ZRh:ZOo.Streets.length=2:=by decide +kernel
def ZRi(h:Hp)(b:Nat)(o:AObj):ZH h (some (b,o))=setH h b o:=rfl
def ZOj(d:Int×Int):AV:=.agg [I d.1,I d.2]
def tkA(days:List<|Int×Int):Tldz:=days.foldl (λt d=>atR t d.1 d.2) exT
structure GoodD(days:List<|Int×Int)(i:Nat)(d:Int×Int):Prop where
 day:(ZO6 d.1&&ZO6 d.2)=true
 g:TlG (tkA<|days.take i) d.1 d.2
 n:((ZO2 (ZOc (tkA<|days.take i) d.1 d.2).s).Streets.length:Int)=IntKind.i64.wrap (Int.tdiv d.1 2)
abbrev ZP1(ex:Bool)(days:List<|Int×Int)(i:Nat):Fr:=[(0,.isl false ex 2<|days.map ZOj),(3,.ptr 1 0 0 1),(4,I i)]
abbrev ZOB(t:Tldz):Hp:=[mpK [(1,1)],.row 14 [tlC 2 0 t],.row 8<|t.V.map Ver.enc]
def ZRj(hE:LawE)(ex:Bool)(days:List<|Int×Int)(hl:days.length<=100)(hd:∀i d,days[i]?=some d->GoodD days i d):
 Zg rE [0,3,4] c19L0b (ZP1 ex days 0) (ZOB exT)=some (.exit 0,[(0,.isl false ex 2<|days.map ZOj),(2,.bot),(3,.ptr 1 0 0 1),(4,I days.length)],ZOB<|tkA days):=by
 have z0:((0:Int)<=0/\(0:Int)<((2:Nat):Int))=True:=by simp
 have z1:((0:Int)<=1/\(1:Int)<((2:Nat):Int))=True:=by simp
 have t0:Int.toNat 0*1=0:=rfl;have t1:Int.toNat 1*1=1:=rfl;have c00:((0:Int) != 0)=false:=rfl;have c20:((2:Int)=0)=False:=by simp
 have hvB:∀(L:List Ver)n,Zd n (L.map Ver.enc)=true:=λL n=>ZN _<|ZOx L
 have hKb:∀(K:List<|Int×Int)n,Zd n (K.map plA)=true/\Zd n (ZO K.length)=true:=λK n=>⟨ZN _<|Zw (λt=>rfl) K,ZN _<|Ut _⟩
 have L:=Y8 (E:=rE) (live:=[0,3,4]) (b:=c19L0b) days.length (λi=>ZP1 ex days i) (λi=>ZOB<|tkA<|days.take i) (λi=>rfl)
  (λi hi=>by
   obtain⟨d,hd0⟩:∃d,days[i]?=some d:=⟨_,ZS5 hi⟩;have hG:=hd i d hd0;have hg:=Z6 (f:=ZOj) hd0;have hi':=Zh hi;have hwr:=Zx (n:=i)<|by omega
   have hst:tkA (days.take<|i+1)=atR (tkA<|days.take i) d.1 d.2:=by unfold tkA;exact Us _ _ hd0
   rw[hst];obtain⟨g1,g2,g3⟩:=hG;generalize tkA (days.take i)=t at*;obtain⟨s,hs,hC⟩:=ZQ0 hE (h:=ZOB t) (b:=1) (t:=t) (K:=[(1,1)]) (by decide) rfl rfl rfl d.1 d.2 g2
   have hV:=ZP8 t d.1 d.2;have hq1:=ZOr 3 2 0 t (by decide)<|by decide
   have hq2:=ZOr 3 2 0 (atR t d.1 d.2) (by decide)<|by decide
   have hq3:=ZOr 4 2 0 (atR t d.1 d.2) (by decide)<|by decide
   unfold atV at hC;rw[g1,cond_true]at hC;have hcs:=ZsZ<|ZO2 (ZOc t d.1 d.2).s;have hbs:∀n,Zd n [stA<|ZO2 (ZOc t d.1 d.2).s]=true:=λn=>ZN _ hcs
   generalize ZO2 (ZOc t d.1 d.2).s=s' at*;have hne:(((s'.Streets.length:Int)) != IntKind.i64.wrap (Int.tdiv d.1 2))=false:=by rw[g3];simp
   generalize atR t d.1 d.2=t' at*;have hb1:∀n,(bel n (plA (1,1))&&Zd n (ZO 1))=true:=λn=>rfl
   refine⟨[(0,.isl false ex 2<|days.map ZOj),(2,.bot),(3,.ptr 1 0 0 1),(4,I (i+1:Nat))],?_,rfl⟩;simp only[ZOB,mpK]at hC⊢;rw[hV]at*;simp only[go_sem,stA]at hC;simp only[go_sem,c19L0b,ZP1,ZOj,hg,hi',hwr,hs,hC,z0,z1,t0,t1,if_true,hvB,hq1,hq2,hq3,hbs,hne,ZRi,okd,Zv,Ya,c00,c20,if_false,hb1])
  (e:=.exit 0) (fr:=[(0,.isl false ex 2<|days.map ZOj),(2,.bot),(3,.ptr 1 0 0 1),(4,I days.length)]) (h:=ZOB<|tkA days) (by
   rw[ZSt];have hq1:=ZOr 3 2 0 (tkA days) (by decide)<|by decide
   simp only[go_sem,c19L0b,ZP1,ZOB,ZG,hvB,hq1]) (by simp)
 exact L
def ZPf(h:Hp)(b:Nat)(t:Tldz)(K:List<|Int×Int)(hr1:rowAt h (b+1) t.V.length=some (8,t.V.map Ver.enc))(hb0:h[b-1]?=some (mpK K)):
 ZC true h 38 (tlC (b+1) (b-1) t).cells=some [.isl false false 6<|t.s.Regions.map Region.enc,.isl false false 5<|t.s.Streets.map Street.enc,.isl false false 4<|t.s.Buildings.map Building.enc,.isl false false 16<|t.s.Doors.map Door.enc,
  .isl false false 6 (t.s.Units.map Unit'.enc),.isl false false 2<|t.s.Merged.map Pair.enc,.isl false false 2<|t.s.Rulings.map Pair.enc,I t.vl,I t.kn,I t.ev,.bool t.is,.isl true false 8<|t.V.map Ver.enc,.imap true (K.map plA)<|ZO K.length,I t.wk]:=by
 have hK:Z4 (K.map plA)=true:=Zw (λ_=>rfl) K
 have hm:=λn=>Zqf true h n (b-1) (K.map plA) (ZO K.length) hb0 hK<|Ut _
 have hvc:=ZOx t.V;have htk:List.take t.V.length (t.V.map Ver.enc)=t.V.map Ver.enc:=ZSk<|by simp
 have hs:=ZsZ t.s;simp only[stA,go_sem]at hs;simp only[go_sem,tlC,hr1,hm,hvc,htk,ZSr]
def ZOE(hE:LawE)(ex:Bool)(days:List<|Int×Int)(hl:days.length<=100)(hd:∀i d,days[i]?=some d->GoodD days i d):pfn rE 19 [.isl false ex 2<|days.map ZOj]=some (I (tkA days).wk):=by
 have L:Zg rE [0,3,4] c19L0b [(0,.isl false ex 2<|days.map ZOj),(3,.ptr 1 0 0 1),(4,.int .i64 0)] [.map [plA (1,1)]<|ZO 1,.row 14 [tlC 2 0 exT],.row 8<|exT.V.map Ver.enc]=_:=ZRj hE ex days hl hd;have hX:=ZqW;have hg0:AdG tl0 exV:=by
  refine AdG.mk (λe he=>?_) (by decide)<|by decide
  have he:e∈[exA,exS 2<|B [115],exS 4<|B [116]]:=he;simp only[ZSA,ZUa,or_false]at he;rcases he with rfl|rfl|rfl
  .exact⟨by decide,by decide,by decide,by decide⟩
  .exact⟨by decide,by decide,by decide,by decide⟩
  .exact⟨by decide,by decide,by decide,by decide⟩
 have hg1:AdG exT exV:=⟨hg0.ev,hg0.len,by decide⟩
 have hA1:=ZOZ hE (h:=[mpK [],.row 14 [tlC 2 0 tl0],.row 8<|tl0.V.map Ver.enc]) (b:=1) (t:=tl0) (K:=[]) (by decide) rfl rfl rfl exV hg0
 have hA2:=ZOZ hE (h:=[mpK [(1,1)],.row 14 [tlC 2 0 exT],.row 8<|exT.V.map Ver.enc]) (b:=1) (t:=exT) (K:=[(1,1)]) (by decide) rfl rfl rfl exV hg1
 have e1:adK [] exV=[(1,1)]:=by unfold adK;rw[ZPc];rfl
 have e2:adT [] tl0 exV=exT:=by unfold adT;rw[ZPc];rfl
 have e3:adK [(1,1)] exV=[(1,1)]:=by unfold adK;rw[ZPd];rfl
 have e4:adT [(1,1)] exT exV=exT:=by unfold adT;rw[ZPd];rfl
 rw[e1,e2,ZPc]at hA1;rw[e3,e4,ZPd]at hA2;have hw:=ZOS<|tkA days;have hvB:∀(L:List Ver)n,Zd n (L.map Ver.enc)=true:=λL n=>ZN _<|ZOx L
 have hvc:=λL=>ZOx L
 have hN:fnV rE 21 [] []=some (.ptr 1 0 0 1,[mpK [],.row 14 [tlC 2 0 tl0],.row 8<|tl0.V.map Ver.enc]):=by
  rw[Q6 (f:=21) rfl rfl];have h1:fits 14 (.agg<|nwC 0)=true:=rfl;have h2:Z4 (nwC 0)=false:=rfl;have h3:Zi (nwC 0)=false:=rfl;unfold nwC at h1 h2 h3;simp only[go_sem,c21,h1,h2,h3];rfl
 have q0:=ZOr 3 2 0 tl0 (by decide)<|by decide
 have q1:=ZOr 3 2 0 exT (by decide)<|by decide
 have q2:=ZOr 3 2 0 (tkA days) (by decide)<|by decide
 have hq:∀v:Ver,Zd 3 [v.enc]=true:=λv=>ZN _<|Zyt v
 have c00:((0:Int) != 0)=false:=rfl;have c88:((8:Int) != 8)=false:=rfl;rw[Z5 (f:=19) rfl rfl];have hF:=λ(h:Hp)h1 h2=>ZPf h 1 (tkA days) [(1,1)] h1 h2
 have hlv:((tkA days).V.map Ver.enc).length=(tkA days).V.length:=ZS4 _;have hF1:=hF [mpK [(1,1)],.row 14 [tlC 2 0<|tkA days],.row 8<|(tkA days).V.map Ver.enc] (by unfold rowAt;simp only[ZSI,ZSp,hlv,beq_self_eq_true,cond_true]) rfl
 generalize tkA days=t at*;generalize hv:exV.enc=ve at*;simp only[ZOi,mpK]at hA1 hA2 hN L⊢;simp only[go_sem]at hA1 hA2;simp only[go_sem,c19,c19L0,hN,hX,hA1,hA2,c00,c88,L,q1,q2,hvB,hF1,hw]
 skip
def ZOT:VsF ⟨false,[exV]⟩:=FewS.vs (V:=⟨false,[exV]⟩)<|Zx5 ZRf
def exK(s:Sta)(v k:Int)(m w:Nat):Tldz:=⟨s,v,k,m,true,[exV],w⟩
def ZP2(s:Sta):ZOg [exV] s (0,0)=Zvx s 1 exA:=ZOP (V:=[exV]) (p:=(0,0)) (v:=exV) (e:=exA) rfl rfl s
def ZP3(s:Sta):ZOg [exV] s (0,1)=Zvx s 1 (exS 2<|B [115]):=ZOP (V:=[exV]) (p:=(0,1)) (v:=exV) (e:=exS 2<|B [115]) rfl rfl s
def ZPg(s:Sta):ZOg [exV] s (0,2)=Zvx s 1 (exS 4<|B [116]):=ZOP (V:=[exV]) (p:=(0,2)) (v:=exV) (e:=exS 4<|B [116]) rfl rfl s
def ZRk:StN 2 ZOn:=by
 have h:=ZOA ZOT [(0,0),(0,1)] 0 Yh (λp hp=>Zwd [exV] 3 9 p<|by rw[ZOs];exact hp) (StN.zero 0)<|by decide
 rw[ZSy,ZSy,ZTP,ZP2,ZP3]at h;exact h
def ZRl:StN 3 ZOo:=by
 have h:=ZOA ZOT [(0,0),(0,1),(0,2)] 0 Yh (λp hp=>Zwd [exV] 4 9 p<|by rw[ZOw];exact hp) (StN.zero 0)<|by decide
 rw[ZSy,ZSy,ZSy,ZTP,ZP2,ZP3,ZPg]at h;exact h
def Rst(t:Tldz)(v k:Int):Prop:=t.V=[exV]/\t.wk<=100/\(!t.is||(t.kn != k||decide (t.vl>v)))=true
def ZPh{t:Tldz}{v k:Int}(h:Rst t v k):ZO5 t v k={t with s:=Yh,vl:=0,kn:=0,ev:=0,is:=false}:=by
 unfold ZO5;rw[h.2.2];rfl
def ZOC{t:Tldz}{v k:Int}(h:Rst t v k)(hl:(Zr3 [exV] v k).length<=50):TlG t v k:=by
 have hk:=ZPh h;refine⟨by rw[h.1];exact ZOT,by have:=h.2.1;omega,0,?_,?_,?_⟩<;>rw[hk]
 .exact StN.zero 0
 .exact ZS7 _
 .rw[h.1];simpa using hl
def xa3{t:Tldz}{k:Int}(h:Rst t 3 k)(ho:Zr3 [exV] 3 k=[(0,0),(0,1)]):ZOc t 3 k=exK ZOn 3 k 2 (t.wk+2):=by
 unfold ZOc;rw[ZPh h,h.1,ho];show Tldz.mk (List.foldl (ZOg [exV]) Yh [(0,0),(0,1)]) _ _ _ _ _ _=_
 rw[ZSy,ZSy,ZTP,ZP2,ZP3];rfl
def xa4{t:Tldz}(h:Rst t 4 9):ZOc t 4 9=exK ZOo 4 9 3 (t.wk+3):=by
 unfold ZOc;rw[ZPh h,h.1,ZOw];show Tldz.mk (List.foldl (ZOg [exV]) Yh [(0,0),(0,1),(0,2)]) _ _ _ _ _ _=_
 rw[ZSy,ZSy,ZSy,ZTP,ZP2,ZP3,ZPg];rfl
def ZOF(s:Sta)(v k:Int)(m w:Nat):(exK s v k m w).V=[exV]:=rfl
def ZOG(s:Sta)(v k:Int)(m w:Nat):(exK s v k m w).ev=m:=rfl
def ZOH(s:Sta)(v k:Int)(m w:Nat):(exK s v k m w).s=s:=rfl
def ZP4(s:Sta)(v k:Int)(m w:Nat):(exK s v k m w).wk=w:=rfl
def ZOy(s:Sta)(v k v2:Int)(m w:Nat)(h:decide (v>v2)=false):ZO5 (exK s v k m w) v2 k=exK s v k m w:=by
 have e:(k != k)=false:=by simp
 unfold ZO5;show(bif (!true||(k != k||decide (v>v2)))then _ else _)=_
 rw[e,h];rfl
def ZPi(w:Nat):ZOc (exK ZOn 3 9 2 w) 4 9=exK ZOo 4 9 3 (w+1):=by
 unfold ZOc;rw[ZOy _ _ _ _ _ _ (by decide),ZOF,ZOw]
 dsimp only;rw[ZOG,ZOH,ZP4];show Tldz.mk (List.foldl (ZOg [exV]) ZOn [(0,2)]) _ _ _ _ _ _=_
 rw[ZSy,ZTP,ZPg];rfl
def ZQ4(w:Nat):ZOc (exK ZOo 4 9 3 w) 4 9=exK ZOo 4 9 3 w:=by
 unfold ZOc;rw[ZOy _ _ _ _ _ _ (by decide),ZOF,ZOw]
 dsimp only;rw[ZOG,ZOH,ZP4];have e:List.drop 3 [(0,0),(0,1),(0,2)]=([]:List<|Nat×Nat):=rfl;rw[e,ZTP];rfl
def g34{w:Nat}(hw:w<=100):TlG (exK ZOn 3 9 2 w) 4 9:=by
 refine⟨ZOT,?_,2,?_,?_,?_⟩
 .rw[ZP4];omega
 .rw[ZOy _ _ _ _ _ _ (by decide),ZOH];exact ZRk
 .rw[ZOy _ _ _ _ _ _ (by decide),ZOF,ZOw,ZOG];decide
 .rw[ZOy _ _ _ _ _ _ (by decide),ZOF,ZOw,ZOG];decide
def g44{w:Nat}(hw:w<=100):TlG (exK ZOo 4 9 3 w) 4 9:=by
 refine⟨ZOT,?_,3,?_,?_,?_⟩
 .rw[ZP4];omega
 .rw[ZOy _ _ _ _ _ _ (by decide),ZOH];exact ZRl
 .rw[ZOy _ _ _ _ _ _ (by decide),ZOF,ZOw,ZOG];decide
 .rw[ZOy _ _ _ _ _ _ (by decide),ZOF,ZOw,ZOG];decide
def r3:atR=λt v k=>bif ZO6 v&&ZO6 k then ZOc t v k else t:=rfl
def n2(v k:Int)(m w:Nat):((ZO2 (exK ZOn v k m w).s).Streets.length:Int)=1:=by
 rw[ZOH];unfold ZO2;dsimp only;rw[ZS4,ZRg];rfl
def n3(v k:Int)(m w:Nat):((ZO2 (exK ZOo v k m w).s).Streets.length:Int)=2:=by
 rw[ZOH];unfold ZO2;dsimp only;rw[ZS4,ZRh];rfl
def ZOl(v k:Int):Rst exT v k:=⟨rfl,by decide,rfl⟩
def ZOt{D:List (Int×Int)}{i:Nat}{d:Int×Int}{t t':Tldz}(ht:tkA (D.take i)=t)(hd:(ZO6 d.1&&ZO6 d.2)=true)(hg:TlG t d.1 d.2)(ha:ZOc t d.1 d.2=t')(hn:((ZO2 t'.s).Streets.length:Int)=IntKind.i64.wrap (Int.tdiv d.1 2)):GoodD D i d:=by
 refine⟨hd,by rw[ht];exact hg,by rw[ht,ha];exact hn⟩
def atD{t:Tldz}{v k:Int}(hd:(ZO6 v&&ZO6 k)=true):atR t v k=ZOc t v k:=by unfold atR;rw[hd];rfl
def k1(k:Int)(hk:k=8\/k=9):tkA [(3,k)]=exK ZOn 3 k 2 2:=by
 show atR exT 3 k=_
 rcases hk with rfl|rfl
 .rw[atD (by decide),xa3 (ZOl 3 8) ZPe];rfl
 .rw[atD (by decide),xa3 (ZOl 3 9) ZOs];rfl
def k2:tkA [(4,9)]=exK ZOo 4 9 3 3:=by
 show atR exT 4 9=_
 rw[atD (by decide),xa4<|ZOl 4 9];rfl
def k3:tkA [(3,9),(4,9)]=exK ZOo 4 9 3 3:=by
 show atR (tkA [(3,9)]) 4 9=_
 rw[k1 9<|.inr rfl,atD (by decide),ZPi]
def k4:tkA [(3,9),(4,9),(4,9)]=exK ZOo 4 9 3 3:=by
 show atR (tkA [(3,9),(4,9)]) 4 9=_
 rw[k3,atD (by decide),ZQ4]
def ZPj:Rst (exK ZOo 4 9 3 3) 3 9:=⟨rfl,by decide,rfl⟩
def ZPk:Rst (exK ZOn 3 8 2 2) 3 9:=⟨rfl,by decide,rfl⟩
def k5:tkA [(4,9),(3,9)]=exK ZOn 3 9 2 5:=by
 show atR (tkA [(4,9)]) 3 9=_
 rw[k2,atD (by decide),xa3 ZPj ZOs];rfl
def k6:tkA [(3,8),(3,9)]=exK ZOn 3 9 2 4:=by
 show atR (tkA [(3,8)]) 3 9=_
 rw[k1 8<|.inl rfl,atD (by decide),xa3 ZPk ZOs];rfl
def o3l:(Zr3 [exV] 3 9).length<=50:=by rw[ZOs];decide
def ZRm:(Zr3 [exV] 3 8).length<=50:=by rw[ZPe];decide
def o4l:(Zr3 [exV] 4 9).length<=50:=by rw[ZOw];decide
def w1(hE:LawE)(ex:Bool):pfn rE 19 [.isl false ex 2<|[(3,9)].map ZOj]=some (I 2):=by
 rw[ZOE hE ex [(3,9)] (by decide)<|λi d h=>?_,k1 9<|.inr rfl]
 .rfl
 .match i,h with
  |0,h=>cases h;exact ZOt (t:=exT) rfl (by decide) (ZOC (ZOl 3 9) o3l) (xa3 (ZOl 3 9) ZOs) (n2 ..)
  |i+1,h=>simp at h
def w2(hE:LawE)(ex:Bool):pfn rE 19 [.isl false ex 2<|[(3,9),(4,9)].map ZOj]=some (I 3):=by
 rw[ZOE hE ex [(3,9),(4,9)] (by decide)<|λi d h=>?_,k3]
 .rfl
 .match i,h with
  |0,h=>cases h;exact ZOt (t:=exT) rfl (by decide) (ZOC (ZOl 3 9) o3l) (xa3 (ZOl 3 9) ZOs) (n2 ..)
  |1,h=>cases h;exact ZOt (k1 9<|.inr rfl) (by decide) (g34<|by decide) (ZPi _)<|n3 ..
  |i+2,h=>simp at h
def w3(hE:LawE)(ex:Bool):pfn rE 19 [.isl false ex 2<|[(3,9),(4,9),(4,9)].map ZOj]=some (I 3):=by
 rw[ZOE hE ex [(3,9),(4,9),(4,9)] (by decide)<|λi d h=>?_,k4]
 .rfl
 .match i,h with
  |0,h=>cases h;exact ZOt (t:=exT) rfl (by decide) (ZOC (ZOl 3 9) o3l) (xa3 (ZOl 3 9) ZOs) (n2 ..)
  |1,h=>cases h;exact ZOt (k1 9<|.inr rfl) (by decide) (g34<|by decide) (ZPi _)<|n3 ..
  |2,h=>cases h;exact ZOt k3 (by decide) (g44<|by decide) (ZQ4 _)<|n3 ..
  |i+3,h=>simp at h
def w4(hE:LawE)(ex:Bool):pfn rE 19 [.isl false ex 2<|[(4,9),(3,9)].map ZOj]=some (I 5):=by
 rw[ZOE hE ex [(4,9),(3,9)] (by decide)<|λi d h=>?_,k5]
 .rfl
 .match i,h with
  |0,h=>cases h;exact ZOt (t:=exT) rfl (by decide) (ZOC (ZOl 4 9) o4l) (xa4<|ZOl 4 9) (n3 ..)
  |1,h=>cases h;exact ZOt k2 (by decide) (ZOC ZPj o3l) (xa3 ZPj ZOs)<|n2 ..
  |i+2,h=>simp at h
def w5(hE:LawE)(ex:Bool):pfn rE 19 [.isl false ex 2<|[(3,8),(3,9)].map ZOj]=some (I 4):=by
 rw[ZOE hE ex [(3,8),(3,9)] (by decide)<|λi d h=>?_,k6]
 .rfl
 .match i,h with
  |0,h=>cases h;exact ZOt (t:=exT) rfl (by decide) (ZOC (ZOl 3 8) ZRm) (xa3 (ZOl 3 8) ZPe) (n2 ..)
  |1,h=>cases h;exact ZOt (k1 8<|.inl rfl) (by decide) (ZOC ZPk o3l) (xa3 ZPk ZOs)<|n2 ..
  |i+2,h=>simp at h
def w6(hE:LawE)(ex:Bool):pfn rE 19 [.isl false ex 2<|([]:List<|Int×Int).map ZOj]=some (I 0):=by
 rw[ZOE hE ex [] (by decide)<|λi d h=>by simp at h]
 rfl
def ZRn(hE:LawE):pfn rE 9 []=some (.bool true):=by
 have h1:=w1 hE;have h2:=w2 hE;have h3:=w3 hE;have h4:=w4 hE;have h5:=w5 hE;have h6:=w6 hE;simp only[ZOj,ZS9,ZSq]at h1 h2 h3 h4 h5 h6;have e1:((2:Int)==2)=true:=rfl;have e2:((3:Int)==3)=true:=rfl;have e3:((5:Int)==5)=true:=rfl;have e4:((4:Int)==4)=true:=rfl;have e5:((0:Int)==0)=true:=rfl;rw[Z5 (f:=9) rfl rfl];simp only[go_sem,c9,h1,h2,h3,h4,h5,h6,e1,e2,e3,e4,e5]
def ZRo(V:List Ver)(s:Sta)(E:List Int)(p:Nat×Nat):(Zvi V (s,E) p).1=ZOg V s p:=by
 unfold ZOg Zvi;cases V[p.1]? with
 |none=>rfl
 |some v=>
  dsimp only;cases v.Events.l[p.2]?<;>rfl
def ZQ5(V:List Ver):∀(O:List<|Nat×Nat)(s:Sta)(E:List Int),(O.foldl (Zvi V) (s,E)).1=O.foldl (ZOg V) s
 |[],_,_=>rfl
 |p::O,s,E=>by
  rw[ZSy,ZSy,<-ZRo V s E p];exact ZQ5 V O (Zvi V (s,E) p).1 (Zvi V (s,E) p).2
def ZOU(V:List Ver)(v k:Int):(Zr5 V v k).1=(Zr3 V v k).foldl (ZOg V) Yh:=ZQ5 V _ _ _
structure TlI(t:Tldz):Prop where
 V:FewS t.V
 k:t.is=true->t.s=(Zr5 t.V t.vl t.kn).1/\t.ev=(Zr3 t.V t.vl t.kn).length
def ZQ6(t:Tldz)(v k:Int):(ZO5 t v k={t with s:=Yh,vl:=0,kn:=0,ev:=0,is:=false}/\(t.is=true->t.kn=k->t.vl<=v->False))\/(ZO5 t v k=t/\t.is=true/\t.kn=k/\t.vl<=v):=by
 unfold ZO5;cases c1:t.is with
 |false=>exact .inl ⟨rfl,λh=>by cases h⟩
 |true=>
  cases c2:t.kn != k with
  |true=>
   refine .inl ⟨rfl,λ_ h _=>?_⟩
   rw[h]at c2;simp at c2
  |false=>
   cases c3:decide (t.vl>v)with
   |true=>exact .inl ⟨rfl,λ_ _ h=>by have:=of_decide_eq_true c3;omega⟩
   |false=>exact .inr ⟨rfl,rfl,by simpa using c2,by have:=of_decide_eq_false c3;omega⟩
def ZPl{V:List Ver}(h:FewS V)(v k:Int):(Zr3 V v k).length<=16:=ZSz (Zwf V v k) h.sum
def ZQ7{t:Tldz}(h:TlI t)(v k:Int):(ZO5 t v k).ev<=(Zr3 t.V v k).length/\((Zr3 t.V v k).drop (ZO5 t v k).ev).foldl (ZOg t.V) (ZO5 t v k).s=(Zr5 t.V v k).1/\StN (ZO5 t v k).ev (ZO5 t v k).s:=by
 rcases ZQ6 t v k with⟨e,_⟩|⟨e,h1,h2,h3⟩
 .rw[e];exact⟨ZS7 _,by rw[ZOU];rfl,StN.zero 0⟩
 .rw[e];obtain⟨h4,h5⟩:=h.k h1;rw[h2]at h4 h5;have hp:=Zx9 t.V h3 k;have hl:=ZCm t.V h3 k;refine⟨by rw[h5];exact hl,?_,?_⟩
  .rw[h4,ZOU,ZOU,h5,<-ZUf]
   conv=>lhs;rw[hp]
   have:(List.take (Zr3 t.V t.vl k).length<|Zr3 t.V v k).length=(Zr3 t.V t.vl k).length:=by rw[ZSD];omega
   rw[this,ZT2]
  .rw[h4,h5,ZOU];have h6:=ZPl h.V t.vl k;have:=ZOA (V:=t.V) (FewS.vs (V:=⟨false,t.V⟩) h.V) (Zr3 t.V t.vl k) 0 Yh (Zwd t.V t.vl k) (StN.zero 0) (by omega)
   rw[ZSh]at this;exact this
def ZQ8{t:Tldz}(h:TlI t)(hw:t.wk<=1000000)(v k:Int):TlG t v k:=by
 obtain⟨h1,_,h3⟩:=ZQ7 h v k;have h4:=ZPl h.V v k;exact⟨FewS.vs (V:=⟨false,t.V⟩) h.V,hw,_,h3,h1,by omega⟩
def ZQ9{t:Tldz}(h:TlI t)(v k:Int):(ZOc t v k).s=(Zr5 t.V v k).1:=(ZQ7 h v k).2.1
def ZRp(t:Tldz)(v k:Int):(ZOc t v k).wk=t.wk+((Zr3 t.V v k).length-(ZO5 t v k).ev):=rfl
def Flat(v:Ver):Prop:=ZOh v=v
def ZRq{x:List (Int×Int)×Tldz×List Ver}{v:Ver}(hf:Flat v)(h:x.2.1.V=x.2.2):(ZOe x v).2.1.V=(ZOe x v).2.2:=by
 unfold ZOe adT;cases ZOb x.1 v==0 with
 |false=>exact h
 |true=>show x.2.1.V++[ZOh v]=x.2.2++[v];rw[h,hf]
def ZPm{l:List Ver}(hf:∀v∈l,Flat v):(ZO3 l).2.1.V=(ZO3 l).2.2:=by
 have:∀(l:List Ver)(x:List (Int×Int)×Tldz×List Ver),(∀v∈l,Flat v)->x.2.1.V=x.2.2->(l.foldl ZOe x).2.1.V=(l.foldl ZOe x).2.2:=by
  intro l;induction l with
  |nil=>exact λ_ _ h=>h
  |cons v l ih=>exact λx hf h=>ih _ (λw hw=>hf w<|ZT5 _ hw)<|ZRq (hf v<|ZSS ..) h
 exact this l _ hf rfl
def ZPn(l:List Ver):(ZO3 l).2.1.is=false/\(ZO3 l).2.1.wk=0:=by
 have:∀(l:List Ver)(x:List (Int×Int)×Tldz×List Ver),x.2.1.is=false/\x.2.1.wk=0->(l.foldl ZOe x).2.1.is=false/\(l.foldl ZOe x).2.1.wk=0:=by
  intro l;induction l with
  |nil=>exact λ_ h=>h
  |cons v l ih=>
   refine λx h=>ih _ ?_
   unfold ZOe adT;cases ZOb x.1 v==0 with
   |false=>exact h
   |true=>exact⟨rfl,h.2⟩
 exact this l _ ⟨rfl,rfl⟩
def ZQa(l:List Ver):(ZO3 l).2.2.Sublist l:=by
 have:∀(l:List Ver)(x:List (Int×Int)×Tldz×List Ver)(m:List Ver),x.2.2.Sublist m->(l.foldl ZOe x).2.2.Sublist (m++l):=by
  intro l;induction l with
  |nil=>intro x m h;rw[ZSf];exact h
  |cons v l ih=>
   intro x m h;have h2:(ZOe x v).2.2.Sublist (m++[v]):=by
    unfold ZOe;cases ZOb x.1 v==0 with
    |false=>exact h.trans<|List.sublist_append_left _ _
    |true=>exact h.append<|.refl _
   have:=ih (ZOe x v) (m++[v]) h2;rw[ZSQ]at this;exact this
 exact this l _ []<|.refl _
def ZRr{a b:List Ver}(h:a.Sublist b):(a.map<|λv=>v.Events.l.length).sum<=(b.map<|λv=>v.Events.l.length).sum:=by
 induction h with
 |slnil=>exact ZS6 _
 |cons v _ ih=>rw[ZS9,List.sum_cons];omega
 |cons_cons v _ ih=>rw[ZS9,ZS9,List.sum_cons,List.sum_cons];omega
def ZRs{a b:List Ver}(h:a.Sublist b)(hb:FewS b):FewS a:=by
 have h1:=hb.sum;rw[ZAo]at h1;have h2:=ZRr h;refine⟨ZSz h.length_le hb.len,λv hv=>hb.few v<|h.subset hv,?_⟩
 rw[ZAo];omega
def ZQb{l:List Ver}(hl:FewS l)(hf:∀v∈l,Flat v):TlI (ZO3 l).2.1:=by
 refine⟨?_,λh=>?_⟩
 .rw[ZPm hf];exact ZRs (ZQa l) hl
 .rw[(ZPn l).1]at h;cases h
def ZOV(l:List Ver):Bool:=decide ((l.length:Int)<=12)&&ZvT l 14
def ZRt(V:NL Ver)(hm:∀v∈V.l,v.Events.l.length<=140737488355328):pfn rE 10 [vsA false V,.isl false false 3 []]=some (.bool<|ZOV V.l):=by
 have h:=ZAm V 14 hm;have e0:decide (((0:Nat):Int)<=8)=true:=rfl;have e1:decide ((0:Int)<=8)=true:=rfl;unfold ZOV;rw[Z5 (f:=10) rfl rfl];cases c:decide ((V.l.length:Int)<=12)with
 |false=>simp only[go_sem,c10,e0,c]
 |true=>simp only[go_sem,c10,e0,c,h,ZSc]
def ZQc{α:Type}{p q:Nat->α->Bool}(h:∀i x,p i x=true->q i x=true):∀(l:List α)(i:Nat),Zu p i l=true->Zu q i l=true
 |[],_,_=>rfl
 |x::l,i,hp=>by
  simp only[Zu,ZS3]at hp⊢;exact⟨h i x hp.1,ZQc h l (i+1) hp.2⟩
def ZRu{l:List Ver}(h:ZOV l=true):FewS l/\l.length<=12:=by
 unfold ZOV at h;rw[ZS3]at h;refine⟨Zx5 ?_,by have:=of_decide_eq_true h.1;omega⟩
 have h2:=h.2;unfold ZvT at h2⊢;rw[ZS3]at h2⊢;refine⟨ZQc (λi x hp=>?_) _ _ h2.1,h2.2⟩
 unfold ZvP at hp⊢;rw[ZS3,ZSJ,decide_eq_false_iff_not]at hp⊢;exact⟨by have:=hp.1;omega,hp.2⟩
def ZQd{l:List Ver}(h:FewS l):∀v∈l,(∀e∈v.Events.l,EvL e)/\v.Events.l.length<=100000:=λv hv=>by
 refine⟨λe he=>?_,?_⟩
 .have h1:=JL e<|h.few v hv e he;have h2:=h1.ids;have h3:=h1.names;have h4:=h1.path;have h5:=h1.lst;exact⟨by omega,by omega,by omega,by omega⟩
 .have h1:=ZAp hv;have h2:=h.sum;omega
def at4(hE:LawE)(K:List<|Int×Int){t:Tldz}(hI:TlI t)(hw:t.wk<=1000000)(v k:Int)(tl:List AObj):
 fnV rE 13 [.ptr 1 0 0 1,I v,I k] (mpK K::.row 14 [tlC 2 0 t]::.row 8 (t.V.map Ver.enc)::tl)=some (atV t v k,mpK K::.row 14 [tlC 2 0<|atR t v k]::.row 8 (t.V.map Ver.enc)::tl):=
 ZQ1 hE (h:=mpK K::.row 14 [tlC 2 0 t]::.row 8 (t.V.map Ver.enc)::tl) (b:=1) (K:=K) (by decide) rfl rfl rfl v k (ZQ8 hI hw v k)
def fz4(K:List<|Int×Int)(t:Tldz)(tl:List AObj):ZC true (mpK K::.row 14 [tlC 2 0 t]::.row 8 (t.V.map Ver.enc)::tl) 38 (tlC 2 0 t).cells =
 some [.isl false false 6<|t.s.Regions.map Region.enc,.isl false false 5<|t.s.Streets.map Street.enc,.isl false false 4<|t.s.Buildings.map Building.enc,.isl false false 16<|t.s.Doors.map Door.enc,
  .isl false false 6 (t.s.Units.map Unit'.enc),.isl false false 2<|t.s.Merged.map Pair.enc,.isl false false 2<|t.s.Rulings.map Pair.enc,I t.vl,I t.kn,I t.ev,.bool t.is,.isl true false 8<|t.V.map Ver.enc,.imap true (K.map plA)<|ZO K.length,I t.wk]:=
 ZPf _ 1 t K (by
  have hlv:(t.V.map Ver.enc).length=t.V.length:=ZS4 _;unfold rowAt;simp only[ZSI,ZSp,hlv,beq_self_eq_true,cond_true]) rfl
def ZQe{t:Tldz}{v k:Int}(h:¬(t.is=true/\t.kn=k/\t.vl<=v)):(ZOc t v k).wk=t.wk+(Zr3 t.V v k).length:=by
 rw[ZRp];rcases ZQ6 t v k with⟨e,_⟩|⟨_,h1,h2,h3⟩
 .rw[e];rfl
 .exact(h ⟨h1,h2,h3⟩).elim
def ZRv{t:Tldz}{v k:Int}(hd:(ZO6 v&&ZO6 k)=true):atV t v k=.tup [stA<|ZO2 (ZOc t v k).s,I 0]:=by unfold atV;rw[hd];rfl
def ZRw{t:Tldz}{v k:Int}(hd:(ZO6 v&&ZO6 k)=false):atV t v k=.tup [stA Yh,I 1]:=by unfold atV;rw[hd];rfl
def ZRx{t:Tldz}{v k:Int}(hd:(ZO6 v&&ZO6 k)=false):atR t v k=t:=by unfold atR;rw[hd];rfl
def ZRy(x:Int):(x != x)=false:=by simp
def ZPo(ex ey:Bool)(l:List Pt)(hl:l.length<=1000):pfn rE 54 [.isl false ex 2<|l.map Pt.enc,.isl false ey 2<|l.map Pt.enc]=some (.bool true):=by
 rw[Z5 (f:=54) rfl rfl];have L:=Y8 (E:=rE) (live:=[0,1,5]) (b:=c54L0b) l.length (λi=>[(0,.isl false ex 2<|l.map Pt.enc),(1,.isl false ey 2<|l.map Pt.enc),(5,I i)]) (λi=>[]) (λi=>rfl)
  (λi hi=>by
   obtain⟨x,hx⟩:∃x,l[i]?=some x:=⟨_,ZS5 hi⟩;have hg:=Z6 (f:=Pt.enc) hx;have hi':=Zh hi;have hwr:=Zx (n:=i)<|by omega
   refine⟨[(0,.isl false ex 2<|l.map Pt.enc),(1,.isl false ey 2<|l.map Pt.enc),(4,.bot),(5,I (i+1:Nat))],?_,rfl⟩;simp only[go_sem,c54L0b,hg,hi',hwr,Pt.enc,beq_self_eq_true])
  (e:=.exit 0) (fr:=[(0,.isl false ex 2<|l.map Pt.enc),(1,.isl false ey 2<|l.map Pt.enc),(4,.bot),(5,I l.length)]) (h:=[]) (by simp only[go_sem,c54L0b,ZG]) (by simp)
 have hne:((l.length:Int) != (l.length:Int))=false:=by simp
 have L':Zg rE [0,1,5] c54L0b [(0,.isl false ex 2<|l.map Pt.enc),(1,.isl false ey 2<|l.map Pt.enc),(5,.int .i64 0)] []=_:=L;simp only[go_sem,c54,c54L0,L',hne]
def ZQf(ex ey:Bool)(l:List Nm)(hl:l.length<=1000):pfn rE 55 [.isl false ex 3<|l.map Nm.enc,.isl false ey 3<|l.map Nm.enc]=some (.bool true):=by
 rw[Z5 (f:=55) rfl rfl];have L:=Y8 (E:=rE) (live:=[0,1,5]) (b:=c55L0b) l.length (λi=>[(0,.isl false ex 3<|l.map Nm.enc),(1,.isl false ey 3<|l.map Nm.enc),(5,I i)]) (λi=>[]) (λi=>rfl)
  (λi hi=>by
   obtain⟨x,hx⟩:∃x,l[i]?=some x:=⟨_,ZS5 hi⟩;have hg:=Z6 (f:=Nm.enc) hx;have hi':=Zh hi;have hwr:=Zx (n:=i)<|by omega
   refine⟨[(0,.isl false ex 3<|l.map Nm.enc),(1,.isl false ey 3<|l.map Nm.enc),(4,.bot),(5,I (i+1:Nat))],?_,rfl⟩;simp only[go_sem,c55L0b,hg,hi',hwr,Nm.enc,Zad,beq_self_eq_true])
  (e:=.exit 0) (fr:=[(0,.isl false ex 3<|l.map Nm.enc),(1,.isl false ey 3<|l.map Nm.enc),(4,.bot),(5,I l.length)]) (h:=[]) (by simp only[go_sem,c55L0b,ZG]) (by simp)
 have hne:((l.length:Int) != (l.length:Int))=false:=by simp
 have L':Zg rE [0,1,5] c55L0b [(0,.isl false ex 3<|l.map Nm.enc),(1,.isl false ey 3<|l.map Nm.enc),(5,.int .i64 0)] []=_:=L;simp only[go_sem,c55,c55L0,L',hne]
def ZRz(x:Region)(h1:x.Ring.l.length<=1000)(h2:x.Names.l.length<=1000):pfn rE 25 [(ZO8 x).enc,x.enc]=some (.bool true):=by
 have hp:=ZPo false x.Ring.ex x.Ring.l h1;have hn:=ZQf false x.Names.ex x.Names.l h2;rw[Z5 (f:=25) rfl rfl];simp only[go_sem,c25,Region.enc,NL.enc,ZO8,Zad,beq_self_eq_true,hp,hn]
def ZRA(x:Street)(h1:x.Line.l.length<=1000)(h2:x.Names.l.length<=1000):pfn rE 26 [(ZO9 x).enc,x.enc]=some (.bool true):=by
 have hp:=ZPo false x.Line.ex x.Line.l h1;have hn:=ZQf false x.Names.ex x.Names.l h2;rw[Z5 (f:=26) rfl rfl];simp only[go_sem,c26,Street.enc,NL.enc,ZO9,Zad,beq_self_eq_true,hp,hn]
def ZRB(x:Building)(h1:x.Ring.l.length<=1000):pfn rE 27 [(ZOa x).enc,x.enc]=some (.bool true):=by
 have hp:=ZPo false x.Ring.ex x.Ring.l h1;rw[Z5 (f:=27) rfl rfl];simp only[go_sem,c27,Building.enc,NL.enc,ZOa,Zad,beq_self_eq_true,hp]
def ZRC(x:Door)(h:x.After.l.length<=1000):pfn rE 28 [(ZO7 x).enc,x.enc]=some (.bool true):=by
 rw[Z4M (ZO7 x) x h];unfold HL FU QL QK;simp only[ZO7,Zad,ZaX,beq_self_eq_true,bne_self_eq_false,ZSn,ZTj,ZSs,ZSB]
def ZRD(s:Sta)(hE:StE s):Zg rE [2,3,5] c14L0b [(2,stI<|ZO2 s),(3,stI s),(5,.int .i64 0)] []=some (.exit 0,[(2,stI<|ZO2 s),(3,stI s),(4,.bot),(5,I s.Regions.length)],[]):=by
 have hlc:(ZO2 s).Regions.length=s.Regions.length:=by show(s.Regions.map ZO8).length=_;rw[ZS4]
 have hn:=hE.sizes.regions;have L:=Y8 (E:=rE) (live:=[2,3,5]) (b:=c14L0b) s.Regions.length (λi=>[(2,stI<|ZO2 s),(3,stI s),(5,I i)]) (λi=>[]) (λi=>rfl)
  (λi hi=>by
   obtain⟨x,hx⟩:∃x,s.Regions[i]?=some x:=⟨_,ZS5 hi⟩;have hg:=Z6 (f:=Region.enc) hx;have hgc:((ZO2 s).Regions.map Region.enc)[i]?=some (ZO8 x).enc:=by show((s.Regions.map ZO8).map Region.enc)[i]?=_;rw[ZSC,ZSC,hx];rfl
   have hlc:(ZO2 s).Regions.length=s.Regions.length:=by show(s.Regions.map ZO8).length=_;rw[ZS4]
   have hi':=Zh hi;have hwr:=Zx (n:=i)<|by omega
   have hlt:((i:Int)<(s.Regions.length:Int)):=by omega
   have hm:=ZSd hx;refine⟨[(2,stI<|ZO2 s),(3,stI s),(4,.bot),(5,I (i+1:Nat))],?_,rfl⟩;have hS:=ZRz x (ZSz (hE.regions x hm).2.1 (by omega))<|ZSz (hE.regions x hm).1 (by omega)
   simp only[Region.enc,NL.enc]at hS hgc;simp only[go_sem,c14L0b,hg,hgc,hlc,hwr,hlt,if_true,Region.enc,NL.enc,hS])
  (e:=.exit 0) (fr:=[(2,stI<|ZO2 s),(3,stI s),(4,.bot),(5,I s.Regions.length)]) (h:=[]) (by simp only[go_sem,c14L0b,ZG,hlc]) (by simp)
 exact L
def ZRE(s:Sta)(hE:StE s):Zg rE [2,3,6] c14L1b [(2,stI<|ZO2 s),(3,stI s),(6,.int .i64 0)] []=some (.exit 2,[(2,stI<|ZO2 s),(3,stI s),(4,.bot),(6,I s.Streets.length)],[]):=by
 have hlc:(ZO2 s).Streets.length=s.Streets.length:=by show(s.Streets.map ZO9).length=_;rw[ZS4]
 have hn:=hE.sizes.streets;have L:=Y8 (E:=rE) (live:=[2,3,6]) (b:=c14L1b) s.Streets.length (λi=>[(2,stI<|ZO2 s),(3,stI s),(6,I i)]) (λi=>[]) (λi=>rfl)
  (λi hi=>by
   obtain⟨x,hx⟩:∃x,s.Streets[i]?=some x:=⟨_,ZS5 hi⟩;have hg:=Z6 (f:=Street.enc) hx;have hgc:((ZO2 s).Streets.map Street.enc)[i]?=some (ZO9 x).enc:=by show((s.Streets.map ZO9).map Street.enc)[i]?=_;rw[ZSC,ZSC,hx];rfl
   have hlc:(ZO2 s).Streets.length=s.Streets.length:=by show(s.Streets.map ZO9).length=_;rw[ZS4]
   have hi':=Zh hi;have hwr:=Zx (n:=i)<|by omega
   have hlt:((i:Int)<(s.Streets.length:Int)):=by omega
   have hm:=ZSd hx;refine⟨[(2,stI<|ZO2 s),(3,stI s),(4,.bot),(6,I (i+1:Nat))],?_,rfl⟩;have hS:=ZRA x (ZSz (hE.streets x hm).2.1 (by omega))<|ZSz (hE.streets x hm).1 (by omega)
   simp only[Street.enc,NL.enc]at hS hgc;simp only[go_sem,c14L1b,hg,hgc,hlc,hwr,hlt,if_true,Street.enc,NL.enc,hS])
  (e:=.exit 2) (fr:=[(2,stI<|ZO2 s),(3,stI s),(4,.bot),(6,I s.Streets.length)]) (h:=[]) (by simp only[go_sem,c14L1b,ZG,hlc]) (by simp)
 exact L
def ZRF(s:Sta)(hE:StE s):Zg rE [2,3,7] c14L2b [(2,stI<|ZO2 s),(3,stI s),(7,.int .i64 0)] []=some (.exit 4,[(2,stI<|ZO2 s),(3,stI s),(4,.bot),(7,I s.Buildings.length)],[]):=by
 have hlc:(ZO2 s).Buildings.length=s.Buildings.length:=by show(s.Buildings.map ZOa).length=_;rw[ZS4]
 have hn:=hE.sizes.buildings;have L:=Y8 (E:=rE) (live:=[2,3,7]) (b:=c14L2b) s.Buildings.length (λi=>[(2,stI<|ZO2 s),(3,stI s),(7,I i)]) (λi=>[]) (λi=>rfl)
  (λi hi=>by
   obtain⟨x,hx⟩:∃x,s.Buildings[i]?=some x:=⟨_,ZS5 hi⟩;have hg:=Z6 (f:=Building.enc) hx;have hgc:((ZO2 s).Buildings.map Building.enc)[i]?=some (ZOa x).enc:=by show((s.Buildings.map ZOa).map Building.enc)[i]?=_;rw[ZSC,ZSC,hx];rfl
   have hlc:(ZO2 s).Buildings.length=s.Buildings.length:=by show(s.Buildings.map ZOa).length=_;rw[ZS4]
   have hi':=Zh hi;have hwr:=Zx (n:=i)<|by omega
   have hlt:((i:Int)<(s.Buildings.length:Int)):=by omega
   have hm:=ZSd hx;refine⟨[(2,stI<|ZO2 s),(3,stI s),(4,.bot),(7,I (i+1:Nat))],?_,rfl⟩;have hS:=ZRB x<|ZSz (hE.buildings x hm).1 (by omega)
   simp only[Building.enc,NL.enc]at hS hgc;simp only[go_sem,c14L2b,hg,hgc,hlc,hwr,hlt,if_true,Building.enc,NL.enc,hS])
  (e:=.exit 4) (fr:=[(2,stI<|ZO2 s),(3,stI s),(4,.bot),(7,I s.Buildings.length)]) (h:=[]) (by simp only[go_sem,c14L2b,ZG,hlc]) (by simp)
 exact L
def ZRG(s:Sta)(hE:StE s):Zg rE [2,3,8] c14L3b [(2,stI<|ZO2 s),(3,stI s),(8,.int .i64 0)] []=some (.exit 6,[(2,stI<|ZO2 s),(3,stI s),(4,.bot),(8,I s.Doors.length)],[]):=by
 have hlc:(ZO2 s).Doors.length=s.Doors.length:=by show(s.Doors.map ZO7).length=_;rw[ZS4]
 have hn:=hE.sizes.doors;have L:=Y8 (E:=rE) (live:=[2,3,8]) (b:=c14L3b) s.Doors.length (λi=>[(2,stI<|ZO2 s),(3,stI s),(8,I i)]) (λi=>[]) (λi=>rfl)
  (λi hi=>by
   obtain⟨x,hx⟩:∃x,s.Doors[i]?=some x:=⟨_,ZS5 hi⟩;have hg:=Z6 (f:=Door.enc) hx;have hgc:((ZO2 s).Doors.map Door.enc)[i]?=some (ZO7 x).enc:=by show((s.Doors.map ZO7).map Door.enc)[i]?=_;rw[ZSC,ZSC,hx];rfl
   have hlc:(ZO2 s).Doors.length=s.Doors.length:=by show(s.Doors.map ZO7).length=_;rw[ZS4]
   have hi':=Zh hi;have hwr:=Zx (n:=i)<|by omega
   have hlt:((i:Int)<(s.Doors.length:Int)):=by omega
   have hm:=ZSd hx;refine⟨[(2,stI<|ZO2 s),(3,stI s),(4,.bot),(8,I (i+1:Nat))],?_,rfl⟩;have hS:=ZRC x (by have:=(hE.doors x hm).after;omega)
   simp only[Door.enc,NL.enc]at hS hgc;simp only[go_sem,c14L3b,hg,hgc,hlc,hwr,hlt,if_true,Door.enc,NL.enc,hS])
  (e:=.exit 6) (fr:=[(2,stI<|ZO2 s),(3,stI s),(4,.bot),(8,I s.Doors.length)]) (h:=[]) (by simp only[go_sem,c14L3b,ZG,hlc]) (by simp)
 exact L
def ZRH(s:Sta)(hE:StE s):Zg rE [2,3,9] c14L4b [(2,stI<|ZO2 s),(3,stI s),(9,.int .i64 0)] []=some (.exit 8,[(2,stI<|ZO2 s),(3,stI s),(4,.bot),(9,I s.Units.length)],[]):=by
 have hU:(ZO2 s).Units=s.Units:=rfl;have hn:=hE.sizes.units;have L:=Y8 (E:=rE) (live:=[2,3,9]) (b:=c14L4b) s.Units.length (λi=>[(2,stI<|ZO2 s),(3,stI s),(9,I i)]) (λi=>[]) (λi=>rfl)
  (λi hi=>by
   obtain⟨x,hx⟩:∃x,s.Units[i]?=some x:=⟨_,ZS5 hi⟩;have hg:=Z6 (f:=Unit'.enc) hx;have hi':=Zh hi;have hwr:=Zx (n:=i)<|by omega
   have hlt:((i:Int)<(s.Units.length:Int)):=by omega
   have hm:=ZSd hx;refine⟨[(2,stI<|ZO2 s),(3,stI s),(4,.bot),(9,I (i+1:Nat))],?_,rfl⟩;simp only[go_sem,c14L4b,hg,hU,hwr,hlt,if_true,Unit'.enc,Zad,beq_self_eq_true])
  (e:=.exit 8) (fr:=[(2,stI<|ZO2 s),(3,stI s),(4,.bot),(9,I s.Units.length)]) (h:=[]) (by simp only[go_sem,c14L4b,ZG,hU]) (by simp)
 exact L
def ZRI(s:Sta)(hE:StE s):pfn rE 14 [stA<|ZO2 s,stA s]=some (.bool true):=by
 have l0:=ZRD s hE;have l1:=ZRE s hE;have l2:=ZRF s hE;have l3:=ZRG s hE;have l4:=ZRH s hE;have p1:=ZbL false s.Merged hE.sizes.merged;have p2:=ZbL false s.Rulings hE.sizes.rulings;have e1:(ZO2 s).Regions.length=s.Regions.length:=by show(s.Regions.map ZO8).length=_;rw[ZS4]
 have e2:(ZO2 s).Streets.length=s.Streets.length:=by show(s.Streets.map ZO9).length=_;rw[ZS4]
 have e3:(ZO2 s).Buildings.length=s.Buildings.length:=by show(s.Buildings.map ZOa).length=_;rw[ZS4]
 have e4:(ZO2 s).Doors.length=s.Doors.length:=by show(s.Doors.map ZO7).length=_;rw[ZS4]
 have e5:(ZO2 s).Units=s.Units/\(ZO2 s).Merged=s.Merged/\(ZO2 s).Rulings=s.Rulings:=⟨rfl,rfl,rfl⟩;have hne:∀n:Nat,((n:Int) != (n:Int))=false:=λn=>by simp
 simp only[stI,e5]at l0 l1 l2 l3 l4;rw[Z5 (f:=14) rfl rfl];simp only[go_sem,c14,c14L0,c14L1,c14L2,c14L3,c14L4,hne,e1,e2,e3,e4,e5,l0,l1,l2,l3,l4,p1,p2]
def ZRJ{V:List Ver}(h:FewS V)(v k:Int):StE (Zr5 V v k).1:=by
 have h6:=ZPl h v k;have:=ZOA (V:=V) (FewS.vs (V:=⟨false,V⟩) h) (Zr3 V v k) 0 Yh (Zwd V v k) (StN.zero 0)<|by omega
 rw[ZOU];exact this.e
def ZRK{s:Sta}(h:StE s):StE (ZO2 s):=by
 have h1:=h.sizes;refine⟨⟨?_,?_,?_,?_,?_,?_,?_⟩,λx hx=>?_,λx hx=>?_,λx hx=>?_,λx hx=>?_,h.units⟩
 .show(s.Regions.map ZO8).length<=_;rw[ZS4];exact h1.regions
 .show(s.Streets.map ZO9).length<=_;rw[ZS4];exact h1.streets
 .show(s.Buildings.map ZOa).length<=_;rw[ZS4];exact h1.buildings
 .show(s.Doors.map ZO7).length<=_;rw[ZS4];exact h1.doors
 .exact h1.units
 .exact h1.merged
 .exact h1.rulings
 .obtain⟨y,hy,rfl⟩:=ZSG.1 hx;exact h.regions y hy
 .obtain⟨y,hy,rfl⟩:=ZSG.1 hx;exact h.streets y hy
 .obtain⟨y,hy,rfl⟩:=ZSG.1 hx;exact h.buildings y hy
 .obtain⟨y,hy,rfl⟩:=ZSG.1 hx;have q:=h.doors y hy;exact⟨q.after,q.id,q.building,q.street,q.veil⟩
def ZRL(s:Sta):ZO2 (ZO2 s)=ZO2 s:=by
 unfold ZO2;simp only[ZTr];congr 1
def ZQg{s:Sta}(h:StE s):pfn rE 14 [stA<|ZO2 s,stA<|ZO2 s]=some (.bool true):=by
 have h1:=ZRI (ZO2 s)<|ZRK h;rw[ZRL]at h1;exact h1
def ZCM(v w:Ver):Bool:=w.Authority==v.Authority&&w.Number==v.Number
def ZCN(l:List Ver)(i:Nat)(v:Ver):Bool:=(l.take i).all (λw=>!ZCM v w)
def ZCQ(l:List Ver):Bool:=Zu (ZCN l) 0 l
def ZQh(V:NL Ver)(hl:V.l.length<=1000)(i:Nat)(v:Ver)(hv:V.l[i]?=some v):
 ∃fr',Zg rE [0,3,4] c11L0b [(0,vsA false V),(3,I i),(4,.int .i64 0)] []=some (if ZCN V.l i v=true then .exit 2 else .ret,fr',[])/\(ZCN V.l i v=true->Z2 [0,2,3] fr'=[(0,vsA false V),(2,.bot),(3,I i)])/\(ZCN V.l i v=false->get fr' 2=.bool false):=by
 have hlt:=Z7 hv;have hgi:=Z6 (f:=Ver.enc) hv;have hev:∀v:Ver,v.enc=.agg [I v.Authority,I v.Number,I v.At,.str v.Prev,.isl false v.Events.ex 18<|v.Events.l.map λe=>evA e,I v.Index,.isl false v.Sig.ex 1<|v.Sig.l.map encS,.isl false v.Path.ex 1<|v.Path.l.map encS]:=λ_=>rfl
 rw[hev]at hgi;have hll:(V.l.take i).length=i:=by rw[ZSD];omega
 have L:=QT (E:=rE) (live:=[0,3,4]) (b:=c11L0b) (h:=[]) (V.l.take i) (λ_ w=>!ZCM v w) (λk=>[(0,vsA false V),(3,I i),(4,I k)]) 2 (λfr=>Z2 [0,2,3] fr=[(0,vsA false V),(2,.bot),(3,I i)]) (λfr=>get fr 2=.bool false) (λk=>rfl)
  (λk w hk hP=>by
   obtain⟨hw,hki⟩:V.l[k]?=some w/\k<i:=by
    have h1:=Z7 hk;rw[ZT3<|by omega]at hk
    exact⟨hk,by omega⟩
   have hg:=Z6 (f:=Ver.enc) hw;rw[hev]at hg;have hi':=Zh hki;have hwr:=Zx (n:=k)<|by omega
   unfold ZCM at hP;cases c1:w.Authority==v.Authority with
   |false=>
    refine⟨_,by simp only[go_sem,c11L0b,hgi,hg,hi',hwr,c1];rfl,?_⟩
    simp only[go_sem]
   |true=>
    rw[c1,ZSc,ZSJ]at hP;refine⟨_,by simp only[go_sem,c11L0b,hgi,hg,hi',hwr,c1,hP];rfl,?_⟩
    simp only[go_sem])
  (λk w hk hP=>by
   obtain⟨hw,hki⟩:V.l[k]?=some w/\k<i:=by
    have h1:=Z7 hk;rw[ZT3<|by omega]at hk
    exact⟨hk,by omega⟩
   have hg:=Z6 (f:=Ver.enc) hw;rw[hev]at hg;have hi':=Zh hki;unfold ZCM at hP;rw[ZUg,ZS3]at hP;refine⟨_,by simp only[go_sem,c11L0b,hgi,hg,hi',hP.1,hP.2];rfl,?_⟩
   simp only[go_sem])
  (by rw[hll];exact⟨_,by simp only[go_sem,c11L0b,ZG];rfl,by simp only[go_sem]⟩)
 obtain⟨fr',L1,h1,h2⟩:=L;rw[QE]at L1 h1 h2;exact⟨fr',L1,h1,h2⟩
def ZD0(V:NL Ver)(hl:V.l.length<=1000):pfn rE 11 [vsA false V]=some (.bool<|ZCQ V.l):=by
 have L:=Uf (E:=rE) (live:=[0,3]) (b:=c11L1b) (h:=[]) V.l (ZCN V.l) (λi=>[(0,vsA false V),(3,I i)]) 0 (λfr=>get fr 2=.bool false) (λk=>rfl)
  (λi v hv hP=>by
   have hi':=Zh<|Z7 hv;have hwr:=Zx (n:=i) (by have:=Z7 hv;omega)
   obtain⟨fr',hF,h1,_⟩:=ZQh V hl i v hv;rw[hP,if_pos rfl]at hF;have h1':=h1 hP;refine⟨_,by simp only[go_sem,c11L1b,c11L0,hi',hwr,hF,h1'];rfl,?_⟩
   simp only[go_sem])
  (λi v hv hP=>by
   have hi':=Zh<|Z7 hv;obtain⟨fr',hF,_,h2⟩:=ZQh V hl i v hv;rw[hP,if_neg ZUj]at hF;have h2':=h2 hP;refine⟨_,by simp only[go_sem,c11L1b,c11L0,hi',hF,h2'];rfl,?_⟩
   simp only[go_sem])
  ⟨_,by simp only[go_sem,c11L1b,ZG];rfl⟩
 obtain⟨fr',L1,h1⟩:=L;have L':Zg rE [0,3] c11L1b [(0,vsA false V),(3,.int .i64 0)] []=_:=L1;rw[Z5 (f:=11) rfl rfl];unfold ZCQ;cases c:Zu (ZCN V.l) 0 V.l with
 |true=>
  rw[c,if_pos rfl]at L';simp only[go_sem,c11,c11L1,L']
 |false=>
  rw[c,if_neg ZUj]at L';have h1':=h1 c;simp only[go_sem,c11,c11L1,L',h1']
def ZCO(l:List Ver):Prop:=∀(i j:Nat)v w,l[i]?=some v->l[j]?=some w->v.Authority=w.Authority->v.Number=w.Number->i=j
def ZD3{l:List Ver}(h:ZCQ l=true):ZCO l:=by
 have h1:=Zda.1 h;have key:∀(i j:Nat)v w,i<j->l[i]?=some v->l[j]?=some w->v.Authority=w.Authority->v.Number=w.Number->False:=by
  intro i j v w hij hv hw ha hn;have:=h1 j w hw;rw[ZSh]at this;unfold ZCN at this;have:=ZSj.1 this v<|by rw[ZTh];exact⟨i,by rw[ZT3 hij];exact hv⟩
  unfold ZCM at this;rw[ha,hn]at this;simp at this
 intro i j v w hv hw ha hn;rcases ZTX i j with h|h|h
 .exact(key i j v w h hv hw ha hn).elim
 .exact h
 .exact(key j i w v h hw hv ha.symm hn.symm).elim
def ZAz{α:Type}{l:List α}{n:Nat}{x:α}(h:x∈l.take n):∃i,i<n/\l[i]?=some x:=by
 obtain⟨i,hi⟩:=ZTh.1 h;have h1:=Z7 hi;rw[ZSD]at h1;rw[ZT3<|by omega]at hi
 exact⟨i,by omega,hi⟩
def ZOW(n:Nat)(p:Nat×Nat):Nat×Nat:=(n-1-p.1,p.2)
def ZPp{l:List Ver}{q:Nat}(h:q<l.length):l.reverse[q]?=l[l.length-1-q]?:=ZUF h
def ZP5{l:List Ver}(hd:ZCO l){valid known:Int}{p:Nat×Nat}{v:Ver}{e:Event}(h:Counts l valid known p v e):Counts l.reverse valid known (ZOW l.length p) v e:=by
 have hlt:=Z7 h.gv;have hg:l.reverse[l.length-1-p.1]?=some v:=by
  rw[ZPp (by omega),show l.length-1-(l.length-1-p.1)=p.1 by omega]
  exact h.gv
 refine⟨hg,h.ge,h.day,h.at',λw hw hc=>?_⟩
 obtain⟨j,hj,hwj⟩:=ZAz hw;have hj':j<l.length-1-p.1:=hj;rw[ZPp<|by omega]at hwj
 have:=hd _ _ _ _ hwj h.gv hc.1 hc.2;omega
def ZQi{l:List Ver}(hd:ZCO l)(valid known:Int):Zr3 l.reverse valid known=(Zr3 l valid known).map (ZOW l.length):=by
 unfold Zr3;refine ZD1 (ZOW l.length) (Zx0 ..) ?_ (ZD2 ..) ?_
 .intro p hp q hq h;obtain⟨v,e,h1⟩:=(ZAu ..).1 hp;obtain⟨w,f,h2⟩:=(ZAu ..).1 hq;rw[h1.key,h2.key]at h;rw[(ZP5 hd h1).key,(ZP5 hd h2).key];exact h
 .intro q;rw[ZAu];constructor
  .rintro⟨v,e,h⟩;have hv:=h.gv;have hq:q.1<l.length:=by have:=Z7 hv;rw[ZUG]at this;exact this
   rw[ZPp hq]at hv;refine⟨(l.length-1-q.1,q.2),(ZAu ..).2 ⟨v,e,hv,h.ge,h.day,h.at',λw hw hc=>?_⟩,?_⟩
   .obtain⟨j,hj,hwj⟩:=ZAz hw;have:=hd _ _ _ _ hwj hv hc.1 hc.2;dsimp only at hj;omega
   .unfold ZOW;rw[Prod.ext_iff];exact⟨by dsimp only;omega,rfl⟩
  .rintro⟨p,hp,rfl⟩;obtain⟨v,e,h1⟩:=(ZAu ..).1 hp;exact⟨v,e,ZP5 hd h1⟩
def ZRM{l:List Ver}(hd:ZCO l)(valid known:Int):Zr5 l.reverse valid known=Zr5 l valid known:=by
 rw[Zww,Zww,ZQi hd,List.filterMap_map];congr 1;refine ZCW λp hp=>?_
 obtain⟨v,e,h⟩:=(ZvQ ..).1 hp;have h2:=ZP5 hd h;show Zvv l.reverse (ZOW l.length p)=Zvv l p
 rw[ZAv h.gv h.ge,ZAv h2.gv h2.ge]
def ZOu(l:List Ver):Prop:=l.Pairwise (λv w=>¬(v.Authority=w.Authority/\v.Number=w.Number))
def ZRN{l:List Ver}(h:ZCO l):ZOu l:=by
 unfold ZOu;rw[ZUe];intro i j hi hj hij hc;have:=h i j _ _ (ZS5 hi) (ZS5 hj) hc.1 hc.2;omega
def ZRO{l:List Ver}(h:ZOu l):ZCO l:=by
 intro i j v w hv hw ha hn;have key:=ZUe.1 h;have hi:=Z7 hv;have hj:=Z7 hw;have ev:l[i]=v:=by rw[ZS5 hi]at hv;exact Option.some.inj hv
 have ew:l[j]=w:=by rw[ZS5 hj]at hw;exact Option.some.inj hw
 rcases ZTX i j with h1|h1|h1
 .exact(key i j hi hj h1<|by rw[ev,ew];exact⟨ha,hn⟩).elim
 .exact h1
 .exact(key j i hj hi h1<|by rw[ev,ew];exact⟨ha.symm,hn.symm⟩).elim
def ZRP{a b c d:Int}(h:¬(a=c/\b=d)):Zvh (a,b) (c,d)=false:=by
 unfold Zvh;cases h1:a==c with
 |false=>rfl
 |true=>
  cases h2:b==d with
  |false=>rfl
  |true=>exact(h ⟨by simpa using h1,by simpa using h2⟩).elim
def ZPq:∀(l:List Ver)(K:List<|Int×Int)(t:Tldz)(out:List Ver),ZOu l->(∀v∈l,K.any (Zvh (v.Authority,v.Number))=false)->(l.foldl ZOe (K,t,out)).2.2=out++l.filter (λv=>!ZOq v)
 |[],_,_,out,_,_=>by simp
 |v::r,K,t,out,h,hK=>by
  have h':=ZSY.1 h;rw[ZSy];cases hb:ZOq v with
  |true=>
   have he:ZOb K v=1:=by unfold ZOb;rw[hb];rfl
   have e1:ZOe (K,t,out) v=(K,t,out):=by unfold ZOe adK adT;simp only[he];rfl
   rw[e1,ZPq r K t out h'.2<|λw hw=>hK w<|ZT5 _ hw,ZUi,hb]
   rfl
  |false=>
   have he:ZOb K v=0:=by unfold ZOb;rw[hb,hK v<|ZSS ..];rfl
   have e1:ZOe (K,t,out) v=(Qi Zvh K (v.Authority,v.Number),ZOR t v,out++[v]):=by unfold ZOe adK adT;simp only[he];rfl
   rw[e1,ZPq r _ _ _ h'.2<|λw hw=>?_,ZUi,hb]
   .simp
   .have h1:=hK w<|ZT5 _ hw;have h2:=ZRP (a:=w.Authority) (b:=w.Number) (c:=v.Authority) (d:=v.Number) (λhc=>h'.1 w hw ⟨hc.1.symm,hc.2.symm⟩)
    unfold Qi;rw[hK v<|ZSS ..];simp[h1,h2]
def ZQj{l:List Ver}(h:ZOu l):(ZO3 l).2.2=l.filter (λv=>!ZOq v):=by
 have:=ZPq l [] tl0 [] h<|λ_ _=>rfl
 rw[ZSa]at this;exact this
def ZRQ{l:List Ver}(h:ZOu l):ZOu l.reverse:=by
 unfold ZOu;rw[List.pairwise_reverse];exact h.imp λhn hc=>hn ⟨hc.1.symm,hc.2.symm⟩
def ZRR{l:List Ver}(h:ZOu l):(ZO3 l.reverse).2.2=(ZO3 l).2.2.reverse:=by
 rw[ZQj h,ZQj<|ZRQ h,List.filter_reverse]
def at8(hE:LawE)(K:List<|Int×Int){t:Tldz}(hI:TlI t)(hw:t.wk<=1000000)(v k:Int)(p0 p1 p2 p3:AObj)(tl:List AObj):
 fnV rE 13 [.ptr 5 0 0 1,I v,I k] (p0::p1::p2::p3::mpK K::.row 14 [tlC 6 4 t]::.row 8 (t.V.map Ver.enc)::tl)=some (atV t v k,p0::p1::p2::p3::mpK K::.row 14 [tlC 6 4<|atR t v k]::.row 8 (t.V.map Ver.enc)::tl):=
 ZQ1 hE (h:=p0::p1::p2::p3::mpK K::.row 14 [tlC 6 4 t]::.row 8 (t.V.map Ver.enc)::tl) (b:=5) (K:=K) (by decide) rfl rfl rfl v k (ZQ8 hI hw v k)
def fz8(K:List<|Int×Int)(t:Tldz)(p0 p1 p2 p3:AObj)(tl:List AObj):ZC true (p0::p1::p2::p3::mpK K::.row 14 [tlC 6 4 t]::.row 8 (t.V.map Ver.enc)::tl) 38 (tlC 6 4 t).cells =
 some [.isl false false 6<|t.s.Regions.map Region.enc,.isl false false 5<|t.s.Streets.map Street.enc,.isl false false 4<|t.s.Buildings.map Building.enc,.isl false false 16<|t.s.Doors.map Door.enc,
  .isl false false 6 (t.s.Units.map Unit'.enc),.isl false false 2<|t.s.Merged.map Pair.enc,.isl false false 2<|t.s.Rulings.map Pair.enc,I t.vl,I t.kn,I t.ev,.bool t.is,.isl true false 8<|t.V.map Ver.enc,.imap true (K.map plA)<|ZO K.length,I t.wk]:=
 ZPf _ 5 t K (by
  have hlv:(t.V.map Ver.enc).length=t.V.length:=ZS4 _;unfold rowAt;simp only[ZSI,ZSp,hlv,beq_self_eq_true,cond_true]) rfl
def ZRS{l:List Ver}(h:FewS l):FewS l.reverse:=by
 refine⟨by rw[ZUG];exact h.len,λv hv=>h.few v<|List.mem_reverse.1 hv,?_⟩
 have h1:=h.sum;rw[ZAo]at h1⊢;rw[List.map_reverse,List.sum_reverse];exact h1
set_option maxHeartbeats 3200000 in
def ZCp(hE:LawE)(V:NL Ver)(hm:∀w∈V.l,w.Events.l.length<=140737488355328)(hf:∀w∈V.l,Flat w)(valid known:Int):pfn rE 3 [vsA false V,I valid,I known]=some (.bool true):=by
 have hH:=ZRn hE;have hF:=ZRt V hm;rw[Z5 (f:=3) rfl rfl];cases c:ZOV V.l with
 |false=>rw[c]at hF;simp only[go_sem,c3,hH,hF]
 |true=>
 rw[c]at hF;obtain⟨hS,h12⟩:=ZRu c;have hDf:=ZD0 V<|by omega
 cases cd:ZCQ V.l with
 |false=>rw[cd]at hDf;simp only[go_sem,c3,hH,hF,hDf]
 |true=>
 rw[cd]at hDf;have hpw:=ZRN<|ZD3 cd;have hA:=ZRc hE (w:=false) V false (by omega)<|ZQd hS
 have hB:=λp0 p1 p2 p3 h0 h1 h2 h3=>ZRd hE p0 p1 p2 p3 h0 h1 h2 h3 (w:=false) V true (by omega)<|ZQd hS
 have hI:=ZQb hS hf;have hV:=ZPm hf;have hnew:=ZPn V.l;have hSr:FewS V.l.reverse:=ZRS hS;have hfr:∀w∈V.l.reverse,Flat w:=λw hw=>hf w<|List.mem_reverse.1 hw
 have hI2:=ZQb hSr hfr;have hV2:=ZPm hfr;have hnew2:=ZPn V.l.reverse;have hrev:=ZRR hpw;have hpo:ZOu (ZO3 V.l).2.2:=List.Pairwise.sublist (ZQa V.l) hpw;have e0:ZO4 false V.l=V.l:=rfl;have e0':ZO4 true V.l=V.l.reverse:=rfl;rw[e0]at hA;simp only[e0']at hB;generalize ZO3 V.l=y at*;generalize ZO3 V.l.reverse=z at*;obtain⟨K,t,out⟩:=y;obtain⟨K2,u,out2⟩:=z;dsimp only at hI hV hnew hA hI2 hV2 hnew2 hB hrev hpo;subst hV;subst hV2;have hdo:=ZRO hpo;have hSo:=hI.V;have hSo2:=hI2.V;have hvL:∀L:List Ver,Z4 (L.map Ver.enc)=true:=ZOx;have hvB:∀(L:List Ver)n,Zd n (L.map Ver.enc)=true:=λL n=>ZN _<|ZOx L
 have hKb:∀(K:List<|Int×Int)n,Zd n (K.map plA)=true/\Zd n (ZO K.length)=true:=λK n=>⟨ZN _<|Zw (λt=>rfl) K,ZN _<|Ut _⟩
 have g2:∀(t:Tldz)n,2<n->Zd n [tlC 2 0 t]=true:=λt n h=>by
  have h1:=ZOr n 2 0 t h<|by omega
  show(bel n (tlC 2 0 t)&&true)=true
  rw[h1];rfl
 have g6:∀(t:Tldz)n,6<n->Zd n [tlC 6 4 t]=true:=λt n h=>by
  have h1:=ZOr n 6 4 t h<|by omega
  show(bel n (tlC 6 4 t)&&true)=true
  rw[h1];rfl
 have hB1:=hB (mpK K) (.row 14 [tlC 2 0 t]) (.row 8<|t.V.map Ver.enc) (.row 8<|t.V.map Ver.enc) (λn _=>by show(Zd n (K.map plA)&&Zd n (ZO K.length))=true;rw[(hKb K n).1,(hKb K n).2];rfl) (λn h=>g2 t n<|by omega) (λn _=>hvB _ n)<|λn _=>hvB _ n
 have hlo:u.V.length=t.V.length:=by rw[hrev,ZUG]
 have hA1:=λtl=>at4 hE K hI (by rw[hnew.2];exact ZS7 _) valid known tl
 have hA2:=λp0 p1 p2 p3 tl=>at8 hE K2 hI2 (by rw[hnew2.2];exact ZS7 _) valid known p0 p1 p2 p3 tl
 have hlv:∀L:List Ver,(L.map Ver.enc).length=L.length:=λL=>ZS4 _
 have q24:=λt=>g2 t 4<|by decide
 have q25:=λt=>g2 t 5<|by decide
 have q28:=λt=>g2 t 8<|by decide
 have q29:=λt=>g2 t 9<|by decide
 have q210:=λt=>g2 t 10<|by decide
 have q68:=λt=>g6 t 8<|by decide
 have q69:=λt=>g6 t 9<|by decide
 have q610:=λt=>g6 t 10<|by decide
 have hbs:∀s n,Zd n [stA s]=true:=λs n=>ZN _<|ZsZ s
 simp only[mpK]at hA hB1 hA1 hA2;cases d1:ZO6 valid&&ZO6 known with
 |false=>
  rw[ZRw d1,ZRx d1]at hA1 hA2;have hz:=λtl=>fz4 K t tl
  have hk:=ZOS t (.isl true false 8<|t.V.map Ver.enc)<|.imap true (K.map plA)<|ZO K.length;have hz2:=λp0 p1 p2 p3 tl=>fz8 K2 u p0 p1 p2 p3 tl
  have hk2:=ZOS u (.isl true false 8<|u.V.map Ver.enc)<|.imap true (K2.map plA)<|ZO K2.length;rw[hnew.2]at hk;rw[hnew2.2]at hk2;have hbz:=hbs Yh;have hsm:=ZQg (s:=Yh) Zx2;have ez:ZO2 Yh=Yh:=rfl;rw[ez]at hsm;simp only[mpK]at hz hz2;rw[hnew.2]at hz;rw[hnew2.2]at hz2;simp only[stA]at hA1 hA2 hbz hsm;simp only[go_sem,c3,hH,hF,hDf,hA,hB1,hA1,hA2,hz,hk,hz2,hk2,hbz,hsm,hvB,hKb,hlv,hlo,q24,q28,q29,q210,q68,q69,q610,ZSr,beq_self_eq_true]
  skip
 |true=>
  rw[ZRv d1,atD d1]at hA1 hA2;have w1:(ZOc t valid known).wk=(Zr3 t.V valid known).length:=by
   rw[ZQe (λh=>by rw[hnew.1]at h;cases h.1),hnew.2,ZSh]
  have w2:(ZOc u valid known).wk=(Zr3 t.V valid known).length:=by
   rw[ZQe (λh=>by rw[hnew2.1]at h;cases h.1),hnew2.2,ZSh,hrev,ZQi hdo,ZS4]
  have sS:(ZOc t valid known).s=(Zr5 t.V valid known).1:=ZQ9 hI valid known;have sU:(ZOc u valid known).s=(Zr5 t.V valid known).1:=by rw[ZQ9 hI2 valid known,hrev,ZRM hdo]
  have V1:(ZOc t valid known).V=t.V:=rfl;have V2:(ZOc u valid known).V=u.V:=rfl;have hst:StE (Zr5 t.V valid known).1:=ZRJ hSo valid known;have hsm:=ZQg hst;rw[sS]at hA1;rw[sU]at hA2;generalize(Zr5 t.V valid known).1=S at*;generalize(Zr3 t.V valid known).length=W at*;generalize ZOc t valid known=t1 at*;generalize ZOc u valid known=u1 at*;have hz:=λtl=>fz4 K t1 tl
  have hk:=ZOS t1 (.isl true false 8<|t.V.map Ver.enc)<|.imap true (K.map plA)<|ZO K.length;have hz2:=λp0 p1 p2 p3 tl=>fz8 K2 u1 p0 p1 p2 p3 tl
  have hk2:=ZOS u1 (.isl true false 8<|u.V.map Ver.enc)<|.imap true (K2.map plA)<|ZO K2.length;rw[w1]at hk;rw[w2]at hk2;have hbz:=hbs Yh;have hbS:=hbs<|ZO2 S;simp only[mpK]at hz hz2;rw[V1,w1]at hz;rw[V2,w2]at hz2;have b0:=ZRy 0;simp only[stA]at hA1 hA2 hbz hbS hsm;simp only[go_sem,c3,hH,hF,hDf,hA,hB1,hA1,hA2,hz,hk,hz2,hk2,hbS,hsm,hvB,hKb,hlv,hlo,q24,q28,q29,q210,q68,q69,q610,ZSr,beq_self_eq_true]
end Go.AM
