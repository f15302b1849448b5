/- What the functions of the program compute, part 4, for RouteEnds. No condition. -/
import Derived.Test.YtaeppjlndecijabGreatDoorP3c
set_option linter.unusedVariables false
set_option linter.defProp false
set_option linter.unusedSimpArgs false
set_option linter.unusedSectionVars false
namespace Go.AM
open Go
variable [REdz]
def ZOd(t:Str):Bool:=!decide ((t.size:Int)>60)
def ZPU{t:Str}(h:ZOd t=true):t.size<=60:=by
 grind [ZOd]
def ZQd{α:Type}{l:List α}{n i:Nat}{x:α}(hx:(l.take n)[i]?=some x):l[i]?=some x/\i<n:=by
 grind
def ZVq(v0 v1 v2 v3:AV)(T:List Str)(hT:T.length<=1000):
 ∃fr',Zg rE [0,1,2,3,4,11] c5L0b [(0,v0),(1,v1),(2,v2),(3,v3),(4,.isl false false 1<|T.map encS),(11,.int .i64 0)] []=some (if T.all ZOd=true then .exit 0 else .ret,fr',[])/\
  (T.all ZOd=true->Z2 [0,1,2,3,10] fr'=[(0,v0),(1,v1),(2,v2),(3,v3),(10,.bot)])/\(T.all ZOd=false->get fr' 10=.bool false):=by
 have L:=QT (E:=rE) (live:=[0,1,2,3,4,11]) (b:=c5L0b) (h:=[]) T (λ_ e=>ZOd e) (λk=>[(0,v0),(1,v1),(2,v2),(3,v3),(4,.isl false false 1<|T.map encS),(11,I k)]) 0 (λfr=>Z2 [0,1,2,3,10] fr=[(0,v0),(1,v1),(2,v2),(3,v3),(10,.bot)]) (λfr=>get fr 10=.bool false) (λk=>rfl)
  (λk e he hP=>by
   have hg2:=Z6 (f:=encS) he;have hi':=Zh<|Z7 he;have hwr:=Zx (n:=k)<|by grind
   have hF:decide ((e.size:Int)>60)=false:=by grind [ZOd]
   refine⟨_,by simp only[go_sem,c5L0b,hg2,hi',hwr,hF,encS];rfl,?_⟩
   simp[go_sem])
  (λk e he hP=>by
   have hg2:=Z6 (f:=encS) he;have hi':=Zh<|Z7 he;have hF:decide ((e.size:Int)>60)=true:=by grind [ZOd]
   refine⟨_,by simp only[go_sem,c5L0b,hg2,hi',hF,encS];rfl,?_⟩
   simp only[go_sem])
  ⟨_,by simp only[go_sem,c5L0b,ZG];rfl,by simp only[go_sem]⟩
 grind [QE]
def ZPe(o:Off):Bool:=(!decide ((o.Lk.length:Int)>10)&&!decide ((o.Cd.length:Int)>8))&&o.Cd.all ZOd
def ZPV(l:List Off):Bool:=bif decide ((l.length:Int)>64)&&decide ((l.length:Int)<=70)then true else(l.take 8).all ZPe&&decide ((l.length:Int)<=8)
def ZSU(ex:Bool)(l:List Off)(i:Nat)(o:Off)(ho:l[i]?=some o)(h8:o.Cd.length<=8):
 ∃fr',Zg rE [0,3,4] c24L0b [(0,ofA ex l),(3,I i),(4,.int .i64 0)] []=some (if o.Cd.all ZOd=true then .exit 2 else .ret,fr',[])/\
  (o.Cd.all ZOd=true->Z2 [0,2,3] fr'=[(0,ofA ex l),(2,.bot),(3,I i)])/\(o.Cd.all ZOd=false->get fr' 2=.bool false):=by
 have hg1:(l.map Off.enc)[i]?=some (.agg [.isl false o.lx 1<|o.Lk.map I,.isl false o.cx 1<|o.Cd.map encS]):=Z6 (f:=Off.enc) ho;have L:=QT (E:=rE) (live:=[0,3,4]) (b:=c24L0b) (h:=[]) o.Cd (λ_ e=>ZOd e) (λk=>[(0,ofA ex l),(3,I i),(4,I k)]) 2 (λfr=>Z2 [0,2,3] fr=[(0,ofA ex l),(2,.bot),(3,I i)]) (λfr=>get fr 2=.bool false) (λk=>rfl)
  (λk e he hP=>by
   have hg2:=Z6 (f:=encS) he;have hi':=Zh<|Z7 he;have hwr:=Zx (n:=k)<|by grind
   have hF:decide ((e.size:Int)>60)=false:=by grind [ZOd]
   refine⟨_,by simp only[go_sem,c24L0b,ofA,hg1,hg2,hi',hwr,hF,encS];rfl,?_⟩
   simp[go_sem,ofA])
  (λk e he hP=>by
   have hg2:=Z6 (f:=encS) he;have hi':=Zh<|Z7 he;have hF:decide ((e.size:Int)>60)=true:=by grind [ZOd]
   refine⟨_,by simp only[go_sem,c24L0b,ofA,hg1,hg2,hi',hF,encS];rfl,?_⟩
   simp only[go_sem])
  ⟨_,by simp only[go_sem,c24L0b,ofA,hg1,ZG];rfl,by simp only[go_sem,ofA]⟩
 grind [QE]
def ZVr(ex:Bool)(l:List Off)(hl:l.length<=140737488355328):pfn rE 24 [ofA ex l]=some (.bool<|ZPV l):=by
 have L:=QT (E:=rE) (live:=[0,3]) (b:=c24L1b) (h:=[]) (l.take 8) (λ_ o=>ZPe o) (λi=>[(0,ofA ex l),(3,I i)]) 0 (λfr=>Z2 [0,2] fr=[(0,ofA ex l),(2,.bot)]) (λfr=>get fr 2=.bool false) (λi=>rfl)
  (λi o hx hP=>by
   obtain⟨hv,hi8⟩:=ZQd hx;have hi':=Zh<|Z7 hv;have h20:decide ((i:Int)<8)=true:=decide_eq_true<|by omega
   have hwr:=Zx (n:=i)<|by omega
   have hg1:(l.map Off.enc)[i]?=some (.agg [.isl false o.lx 1<|o.Lk.map I,.isl false o.cx 1<|o.Cd.map encS]):=Z6 (f:=Off.enc) hv;unfold ZPe at hP;simp only[ZXf,ZXM]at hP;obtain⟨⟨d1,d2⟩,d3⟩:=hP;have:=of_decide_eq_false d2;obtain⟨fr',L0,h1,_⟩:=ZSU ex l i o hv<|by omega
   rw[if_pos d3]at L0;have h1':=h1 d3;unfold ofA at*;refine⟨_,by simp only[go_sem,c24L1b,c24L0,hg1,hi',h20,hwr,d1,d2,L0,h1',ZXg];rfl,?_⟩
   simp only[go_sem])
  (λi o hx hP=>by
   obtain⟨hv,hi8⟩:=ZQd hx;have hi':=Zh<|Z7 hv;have h20:decide ((i:Int)<8)=true:=decide_eq_true<|by omega
   have hg1:(l.map Off.enc)[i]?=some (.agg [.isl false o.lx 1<|o.Lk.map I,.isl false o.cx 1<|o.Cd.map encS]):=Z6 (f:=Off.enc) hv;unfold ZPe at hP;cases d1:decide ((o.Lk.length:Int)>10)with
   |true=>
    unfold ofA;refine⟨_,by simp only[go_sem,c24L1b,c24L0,hg1,hi',h20,d1,ZXg];rfl,?_⟩
    simp only[go_sem]
   |false=>
    cases d2:decide ((o.Cd.length:Int)>8)with
    |true=>
     unfold ofA;refine⟨_,by simp only[go_sem,c24L1b,c24L0,hg1,hi',h20,d1,d2,ZXg];rfl,?_⟩
     simp only[go_sem]
    |false=>
     have d3:o.Cd.all ZOd=false:=by grind
     have:=of_decide_eq_false d2;obtain⟨fr',L0,_,h2⟩:=ZSU ex l i o hv<|by omega
     rw[if_neg<|by grind]at L0
     have h2':=h2 d3;unfold ofA at*;refine⟨_,by simp only[go_sem,c24L1b,c24L0,hg1,hi',h20,d1,d2,L0,ZXg];rfl,?_⟩
     simp only[go_sem,h2'])
  (by
   rw[ZXX];rcases ZYj l.length 8 with h|h
   .rw[Nat.min_eq_right<|by omega]
    exact⟨_,by simp only[go_sem,c24L1b,ofA,ZG];rfl,by simp only[go_sem,ofA]⟩
   .rw[ZYU h];have h20:decide (((8:Nat):Int)<8)=false:=rfl;cases c:decide (((8:Nat):Int)<((l.length:Nat):Int))with
    |true=>exact⟨_,by simp only[go_sem,c24L1b,ofA,c,h20,ZXg];rfl,by simp only[go_sem,ofA]⟩
    |false=>exact⟨_,by simp only[go_sem,c24L1b,ofA,c,ZXg];rfl,by simp only[go_sem,ofA]⟩)
 rw[QE]at L;obtain⟨fr',L1,h0,h1⟩:=L;have L':Zg rE [0,3] c24L1b [(0,ofA ex l),(3,.int .i64 0)] []=_:=L1;unfold ZPV;unfold ofA at*;rw[Z5 (f:=24) rfl rfl];have tail:((bif decide ((l.length:Int)>64)then decide ((l.length:Int)<=70)else false)=false)->(pfn rE 24 [.isl false ex 2<|l.map Off.enc]=some (.bool<|(l.take 8).all ZPe&&decide ((l.length:Int)<=8))):=λhq=>by
  rw[Z5 (f:=24) rfl rfl];cases c:(l.take 8).all ZPe with
  |true=>
   rw[c,if_pos rfl]at L';have h0':=h0 c;cases e1:decide ((l.length:Int)>64)with
   |false=>simp only[go_sem,c24,c24L1,L',h0',e1,ZXg,ZXk]
   |true=>
    rw[e1,cond_true]at hq;simp only[go_sem,c24,c24L1,L',h0',e1,hq,ZXg,ZXk]
  |false=>
   rw[c,if_neg ZZx]at L';have h1':=h1 c;cases e1:decide ((l.length:Int)>64)with
   |false=>simp only[go_sem,c24,c24L1,L',h1',e1,ZXg,ZXm]
   |true=>
    rw[e1,cond_true]at hq;simp only[go_sem,c24,c24L1,L',h1',e1,hq,ZXg,ZXm]
 cases e1:decide ((l.length:Int)>64)with
 |false=>
  rw[e1]at tail;rw[<-Z5 (E:=rE) (f:=24) rfl rfl,tail rfl];rfl
 |true=>
  cases e2:decide ((l.length:Int)<=70)with
  |false=>
   rw[e1,e2]at tail;rw[<-Z5 (E:=rE) (f:=24) rfl rfl,tail rfl];rfl
  |true=>simp only[go_sem,c24,e1,e2,ZXg,ZXk,cond_true]
def ZPC(o:Ord):Bool:=ZOd o.Id&&(ZOd o.Who&&(ZOd o.Fr&&ZOd o.To))
def ZQe(l:List Ord):Bool:=(l.take 30).all ZPC&&decide ((l.length:Int)<=30)
def ZVs(bw ex:Bool)(l:List Ord):pfn rE 26 [orA bw ex l]=some (.bool<|ZQe l):=by
 have L:=QT (E:=rE) (live:=[0,3]) (b:=c26L0b) (h:=[]) (l.take 30) (λ_ o=>ZPC o) (λi=>[(0,orA bw ex l),(3,I i)]) 0 (λfr=>Z2 [0,2] fr=[(0,orA bw ex l),(2,.bot)]) (λfr=>get fr 2=.bool false) (λi=>rfl)
  (λi o hx hP=>by
   obtain⟨hv,hi8⟩:=ZQd hx;have hi':=Zh<|Z7 hv;have h20:decide ((i:Int)<30)=true:=decide_eq_true<|by omega
   have hwr:=Zx (n:=i)<|by omega
   have hg1:(l.map Ord.enc)[i]?=some (.agg [.str o.Id,.str o.Who,.str o.Fr,.str o.To,I o.pa,I o.pb]):=Z6 (f:=Ord.enc) hv;unfold ZPC ZOd at hP;simp only[ZXf,ZXM]at hP;obtain⟨d1,d2,d3,d4⟩:=hP;unfold orA at*;refine⟨_,by simp only[go_sem,c26L0b,hg1,hi',h20,hwr,d1,d2,d3,d4,ZXg];rfl,?_⟩
   simp only[go_sem])
  (λi o hx hP=>by
   obtain⟨hv,hi8⟩:=ZQd hx;have hi':=Zh<|Z7 hv;have h20:decide ((i:Int)<30)=true:=decide_eq_true<|by omega
   have hg1:(l.map Ord.enc)[i]?=some (.agg [.str o.Id,.str o.Who,.str o.Fr,.str o.To,I o.pa,I o.pb]):=Z6 (f:=Ord.enc) hv;unfold ZPC ZOd at hP;unfold orA at*;cases d1:decide ((o.Id.size:Int)>60)with
   |true=>exact⟨_,by simp only[go_sem,c26L0b,hg1,hi',h20,d1,ZXg];rfl,by simp only[go_sem]⟩
   |false=>
    cases d2:decide ((o.Who.size:Int)>60)with
    |true=>exact⟨_,by simp only[go_sem,c26L0b,hg1,hi',h20,d1,d2,ZXg];rfl,by simp only[go_sem]⟩
    |false=>
     cases d3:decide ((o.Fr.size:Int)>60)with
     |true=>exact⟨_,by simp only[go_sem,c26L0b,hg1,hi',h20,d1,d2,d3,ZXg];rfl,by simp only[go_sem]⟩
     |false=>
      cases d4:decide ((o.To.size:Int)>60)with
      |true=>exact⟨_,by simp only[go_sem,c26L0b,hg1,hi',h20,d1,d2,d3,d4,ZXg];rfl,by simp only[go_sem]⟩
      |false=>grind)
  (by
   rw[ZXX];unfold orA;rcases ZYj l.length 30 with h|h
   .rw[Nat.min_eq_right<|by omega]
    exact⟨_,by simp only[go_sem,c26L0b,ZG];rfl,by simp only[go_sem]⟩
   .rw[ZYU h];have h20:decide (((30:Nat):Int)<30)=false:=rfl;cases c:decide (((30:Nat):Int)<((l.length:Nat):Int))with
    |true=>exact⟨_,by simp only[go_sem,c26L0b,c,h20,ZXg];rfl,by simp only[go_sem]⟩
    |false=>exact⟨_,by simp only[go_sem,c26L0b,c,ZXg];rfl,by simp only[go_sem]⟩)
 rw[QE]at L;obtain⟨fr',L1,h0,h1⟩:=L;have L':Zg rE [0,3] c26L0b [(0,orA bw ex l),(3,.int .i64 0)] []=_:=L1;unfold ZQe;unfold orA at*;rw[Z5 (f:=26) rfl rfl];cases c:(l.take 30).all ZPC with
 |true=>
  rw[c,if_pos rfl]at L';have h0':=h0 c;simp only[go_sem,c26,c26L0,L',h0',ZXg,ZXk]
 |false=>
  rw[c,if_neg ZZx]at L';have h1':=h1 c;simp only[go_sem,c26,c26L0,L',h1',ZXm]
def ZQf(l:List Off)(V:List Ver)(C:List Int)(os:List Ord):Bool:=ZPV l&&(ZvT V 14&&(decide ((C.length:Int)<=10)&&(decide ((os.length:Int)<=12)&&ZQe os)))
def ZVt(ex bw b2 b3 e3:Bool)(l:List Off)(hl:l.length<=140737488355328)(V:NL Ver)(hV:∀v∈V.l,v.bc.l.length<=140737488355328)(C:List Int)(os:List Ord):
 pfn rE 11 [ofA ex l,vsA V,.isl bw b2 1<|C.map I,orA b3 e3 os]=some (.bool<|ZQf l V.l C os):=by
 have h1:=ZVr ex l hl;have h2:=ZAm V 14 hV;have h3:=ZVs b3 e3 os;have f1:∀(h:Hp)(n:Nat),freeze true h (n+1) (.isl true e3 6<|os.map Ord.enc)=some (.isl true e3 6<|os.map Ord.enc):=λh n=>rfl
 have hr:∀h:Hp,rlV h (vsA V)=some (vsA V,h):=λh=>rfl
 unfold ZQf;unfold ofA orA at*;rw[Z5 (f:=11) rfl rfl];cases c1:ZPV l with
 |false=>rw[c1]at h1;simp only[go_sem,c11,h1,ZXm]
 |true=>
  rw[c1]at h1;cases c2:ZvT V.l 14 with
  |false=>rw[c2]at h2;simp only[go_sem,c11,h1,h2,hr,ZXm,ZXk]
  |true=>
   rw[c2]at h2;cases c3:decide ((C.length:Int)<=10)with
   |false=>cases bw<;>simp only[go_sem,c11,h1,h2,hr,c3,ZXg,ZXm,ZXk]
   |true=>
    cases c5004:decide ((os.length:Int)<=12)with
    |false=>cases bw<;>cases b3<;>simp only[go_sem,c11,h1,h2,hr,c3,c5004,ZXg,ZXm,ZXk]
    |true=>cases bw<;>cases b3<;>simp only[go_sem,c11,h1,h2,h3,hr,f1,c3,c5004,ZXg,ZXk]
def ZPW(l:List Off)(V:List Ver)(C:List Int)(os:List Ord)(T:List Str):Bool:=T.all ZOd&&ZQf l V C os
def ZVu(ex bw b2 b3 e3:Bool)(l:List Off)(hl:l.length<=140737488355328)(V:NL Ver)(hV:∀v∈V.l,v.bc.l.length<=140737488355328)(C:List Int)(os:List Ord)(T:List Str)(hT:T.length<=1000):
 pfn rE 5 [ofA ex l,vsA V,.isl bw b2 1<|C.map I,orA b3 e3 os,.isl false false 1<|T.map encS]=some (.bool<|ZPW l V.l C os T):=by
 have h1:=ZVt ex bw b2 b3 e3 l hl V hV C os;obtain⟨fr',L,l1,l2⟩:=ZVq (ofA ex l) (vsA V) (.isl bw b2 1<|C.map I) (orA b3 e3 os) T hT;have f0:∀(h:Hp)(n:Nat),freeze true h (n+1) (.isl true b2 1<|C.map I)=some (.isl true b2 1<|C.map I):=λh n=>rfl
 have f1:∀(h:Hp)(n:Nat),freeze true h (n+1) (.isl true e3 6<|os.map Ord.enc)=some (.isl true e3 6<|os.map Ord.enc):=λh n=>rfl
 have hr:∀h:Hp,rlV h (vsA V)=some (vsA V,h):=λh=>rfl
 unfold ZPW;unfold ofA orA at*;rw[Z5 (f:=5) rfl rfl];cases c:T.all ZOd with
 |true=>
  rw[c,if_pos rfl]at L;have l1:=l1 c;cases bw<;>cases b3<;>simp[go_sem,c5,c5L0,L,l1,h1,ZXk]
 |false=>
  rw[c,if_neg ZZx]at L;have l2:=l2 c;simp[go_sem,c5,c5L0,L,l2]
def ZVv{l:List Ver}(h:ZvT l 14=true):FewS l:=by
 refine Zx5 ?_;unfold ZvT at*;rw[ZXf]at*;refine⟨Zda.2 λi v hv=>?_,h.2⟩
 have:=Zda.1 h.1 i v hv;unfold ZvP at*
 grind
structure FwR(l:List Off)(V:List Ver)(C:List Int)(os:List Ord):Prop where
 off:(64<l.length/\l.length<=70)\/(l.length<=8/\∀o∈l,OffS o)
 ver:FewS V
 cp:C.length<=10
 ol:os.length<=12
 os:∀o∈os,OrdS o
def ZVw{l:List Off}{V:List Ver}{C:List Int}{os:List Ord}{T:List Str}(h:ZPW l V C os T=true):(∀t∈T,t.size<=60)/\FwR l V C os:=by
 unfold ZPW ZQf at h;simp only[ZXf,decide_eq_true_eq]at h;obtain⟨h1,h2,h3,h4,h5,h6⟩:=h;refine⟨λt ht=>ZPU<|ZXs.1 h1 t ht,?_,ZVv h3,by omega,by omega,λo ho=>?_⟩
 .unfold ZPV at h2;cases c:decide ((l.length:Int)>64)&&decide ((l.length:Int)<=70)with
  |true=>
   grind
  |false=>
   rw[c,cond_false]at h2;simp only[ZXf,decide_eq_true_eq]at h2;right;rw[ZXz<|by omega]at h2
   refine⟨by omega,λo ho=>?_⟩
   have:=ZXs.1 h2.1 o ho;unfold ZPe at this;simp[decide_eq_false_iff_not]at this;exact⟨by omega,by omega⟩
 .unfold ZQe at h6;simp only[ZXf]at h6;rw[ZXz<|by omega]at h6
  have:=ZXs.1 h6.1 o ho;unfold ZPC at this;simp[ZXf]at this;have a1:=ZPU this.1;have a2:=ZPU this.2.1;have a3:=ZPU this.2.2.1;have a4:=ZPU this.2.2.2;exact⟨by omega,by omega,by omega,by omega⟩
def ZVx(s:Sta)(hs:StE s)(hd:s.Bc.length<=500)(id:Str):(ZOz s id).length<=500:=by
 obtain⟨E,e,h⟩:=ZSO s hs hd id;have key:∀(D:List Str)(E':List Endz)(e':Int),pfn rE 36 [stA s,.str id]=some (.tup [ftA false false D E',I e'])->D.length<=500->(ZOz s id).length<=500:=by
  intro D E' e' h2 hD;rw[h2]at h;injection h with h
  injection h with h
  injection h with h _
  injection h with h
  injection h with h _
  injection h with _ _ _ h
  have:=congrArg List.length h
  grind
 by_cases hc:ZEb s id=0
 .have h1:Jx s=true/\decide (Zn s id<0)=false:=by
   unfold ZEb at hc
   grind
  obtain⟨D,E',h2,h3⟩:=ZHv s h1.1 hs hd id h1.2;exact key D E' 0 h2 h3.dl
 grind [ZFi]
def ZVy{V:NL Ver}(h:FewS V.l)(day k:Int):StOk (ZO7 V day k):=by
 have h1:=Zwf V.l day k;have h2:=h.sum;have h3:=(Zx3 h.vs (Zr3 V.l day k) 0 (Yh,[]) (StN.zero 0)<|by omega).1
 have h5:ZO7 V day k=((Zr3 V.l day k).foldl (Zvi V.l) (Yh,[])).1:=rfl;rw[<-h5]at h3;have h4:=h3.doors;have h6:=h3.regions;have hd:(ZO7 V day k).Bc.length<=500:=by omega
 exact⟨h3.e,by omega,hd,λid=>by have:=ZVx _ h3.e hd id;omega⟩
theorem ZVz(ex:Bool)(l:List Off)(h:64<l.length):pfn rE 30 [ofA ex l]=some (.bool false)/\ZO5 l=false:=by
 have h1:decide ((l.length:Int)<1)=false:=decide_eq_false<|by omega
 have h2:decide ((l.length:Int)>64)=true:=decide_eq_true<|by omega
 constructor
 .unfold ofA;rw[Z5 (f:=30) rfl rfl];simp[go_sem,c30,h1,h2]
 grind [ZO5]
def ZQS(l:List Off):Prop:=(64<l.length/\l.length<=70)\/(l.length<=8/\∀o∈l,OffS o)
def ZSV{l:List Off}(h:ZQS l)(ex:Bool):pfn rE 30 [ofA ex l]=some (.bool<|ZO5 l)/\(ZO5 l=true->∀o∈l,OffS o)/\(ZO5 l=true->l.length<=8):=by
 rcases h with⟨h1,_⟩|⟨h1,h2⟩
 all_goals grind [ZVz,ZQ8]
def FwR.va{l:List Off}{V:List Ver}{C:List Int}{os:List Ord}(h:FwR l V C os)(ex:Bool):pfn rE 30 [ofA ex l]=some (.bool<|ZO5 l)/\(ZO5 l=true->∀o∈l,OffS o)/\(ZO5 l=true->l.length<=8):=ZSV h.off ex
def ZVA(ex bw b2 b3 e3:Bool){l:List Off}{V:NL Ver}{C:List Int}{os:List Ord}(h:FwR l V.l C os)(p:Str)(hp:p.size<=60)(day home:Int)(door:Str):
 pfn rE 6 [ofA ex l,vsA V,.isl bw b2 1<|C.map I,orA b3 e3 os,.str p,I day,I home,.str door]=some (ZPT l V C os p day home door):=by
 obtain⟨h1,h2,_⟩:=h.va ex;exact ZVp ex bw b2 b3 e3 l h1 h2 V h.ver C (by have:=h.cp;omega) os (by have:=h.ol;omega) h.os p (by omega) day home door<|ZVy h.ver day
structure Counts(l:List Ver)(bq bp:Int)(p:Nat×Nat)(v:Ver)(e:Gt):Prop where
 gv:l[p.1]?=some v
 ge:v.bc.l[p.2]?=some e
 day:e.Day<=bq
 at':v.At<=bp
 first:∀w∈l.take p.1,¬(w.Mv=v.Mv/\w.An=v.An)
def Counts.key{l:List Ver}{bq bp:Int}{p:Nat×Nat}{v:Ver}{e:Gt}(h:Counts l bq bp p v e):evK l p=[e.Day,v.At,v.Mv,v.An,(p.2:Int)]:=Zw4 h.gv h.ge
def ZSW:∀(l:List Off)(c:Str)(i j:Nat),ZOL l c i=some j->i<=j/\j<i+l.length
 |o::r,c,i,j,h=>by
  unfold ZOL at h;rw[ZXw];cases e:o.Cd.any (Z3 c)with
  |true=>grind
  |false=>rw[e,cond_false]at h;have:=ZSW r c (i+1) j h;omega
def ZVB{s:Sta}(hp:Jx s=true){k:Nat}{d:Ga}(hd:s.Bc[k]?=some d)(hv:Z3 d.Veil emp=false):0<=d.bz/\d.bz<=63:=by
 unfold Jx at hp;simp[ZXf]at hp;have h:=Zda.1 hp.2.2.2.1 k d hd;unfold Vr Hg at h;rw[hv,cond_false]at h;simp[ZXf]at h;have h:=h.2.2.2;unfold NN Q9 Q8 at h;simp only[ZXf]at h;have h:=h.2.2.2.2.2.2.2.2;have h:(ZZ d.Id&&(ZD d.bz 0 63&&Uu d.Veil))=true:=h
 simp_all[ZD]
def ZVC{l:List Off}{s:Sta}{id:Str}(hl:ZO5 l=true)(h:(ZOj l s id).2=0):0<=(ZOj l s id).1/\(ZOj l s id).1<l.length:=by
 unfold ZOj at*;cases c1:(ZLa s id).2==0 with
 |true=>
  unfold ZPy at*;cases c2:ZOL l (ZLa s id).1.Code 0 with
  |none=>grind
  |some j=>
   have:=ZSW _ _ _ _ c2
   grind
 |false=>
  cases c2:(ZLa s id).2==24 with
  |false=>grind
  |true=>
   obtain⟨k,d,h1,h2,h3,h4,h5⟩:=ZSJ c2;rw[h1,ZY4,h2]at h⊢;cases c3:decide (d.bz>=(l.length:Int))with
   |true=>grind
   |false=>
    have:=ZVB h5 h2 h4
    grind
def ZVD{l:List Off}{s:Sta}{os:List Ord}{p:Str}{d k:Int}{x:Lab}(hl:ZO5 l=true)(hx:x.Seen<k)(hh:0<=x.Home/\x.Home<l.length):0<=(ZOo l s os p d k x).bz/\(ZOo l s os p d k x).bz<l.length:=by
 rcases ZPB l s os p d k x with⟨h,_⟩|⟨_,_,_,⟨h,_⟩|⟨q,h1,h⟩⟩
 .omega
 .grind
 .rw[h];exact ZVC hl (ZSQ (ZQP h1).1).2
def ZVE(l:List Off)(a:Int):(nxT l a a).2≠0:=by
 grind [nxT]
def ZQT{l:List Off}(hl:ZO5 l=true){a b:Nat}(ha:a<l.length)(hb:b<l.length):ZOE l [(a:Int),(b:Int)]=true:=by
 grind [ZOE,ZSC]
theorem ZSX{l:List Off}(hl:ZO5 l=true){a b:Nat}(ha:a<l.length)(hb:b<l.length)(hne:a≠b):nxT l a b=((ZP2 l a b:Int),0):=by
 unfold nxT;have:((a:Int)==(b:Int))=false:=beq_eq_false_iff_ne.2<|by omega
 rw[ZQT hl ha hb,cond_true,this];rfl
noncomputable def ZP3(l:List Off)(L:List Int)(G:Nat)(q:Int×Lab):Nat:=G*(L.filter λk=>decide (q.2.Seen<k)).length+(gI (spD l q.2.bz.toNat) q.1.toNat).toNat
def InR(l:List Off)(home:Int)(x:Lab):Prop:=(0<=x.bz/\x.bz<l.length)/\x.Home=home
def ZQg(C:List Int):Int->List (Int×Lab)->Prop
 |_,[]=>True
 |s,q::r=>q.2.Seen=max s (gI C q.1.toNat)/\ZQg C q.2.Seen r
def ZPX(l:List Off):List (Int×Lab)->Prop
 |[]=>True
 |[q]=>q.2.bz=q.1
 |q::q'::r=>ZP1 l q.1 q'.1=(1,0)/\ZPX l (q'::r)
def ZSY(l:List Off)(V:NL Ver)(C:List Int)(os:List Ord)(p:Str)(day:Int)(a:Nat)(x:Lab):(dlY l V C os p day a x).Seen=max x.Seen (gI C a):=by
 rcases ZPB l (ZO7 V day<|gI C a) os p day (gI C a) x with⟨h1,h⟩|⟨h1,h,_⟩
 .show(ZOo _ _ _ _ _ _ _).Seen=_
  grind
 .show(ZOo _ _ _ _ _ _ _).Seen=_
  grind
def ZQU{l:List Off}(hv:ZO5 l=true){V:NL Ver}{C:List Int}{os:List Ord}{p:Str}{day home:Int}(hh:0<=home/\home<l.length){a:Nat}{x:Lab}(hx:InR l home x):InR l home (dlY l V C os p day a x):=by
 obtain⟨h1,h2⟩:=hx;rcases ZPB l (ZO7 V day<|gI C a) os p day (gI C a) x with⟨_,h⟩|⟨h3,_,h4,_⟩
 .show InR l home (ZOo _ _ _ _ _ _ _)
  rw[h];exact⟨h1,h2⟩
 .exact⟨ZVD hv h3 (by grind),h4.trans h2⟩
def ZSZ{l:List Off}(hv:ZO5 l=true)(hl:VaS l)(V:NL Ver)(C:List Int)(hC:C.length=l.length)(os:List Ord)(p:Str)(day home:Int)(hh:0<=home/\home<l.length)(L:List Int)(hL:∀c∈C,c∈L)(G:Nat)
 (hG:∀a c:Nat,a<l.length->c<l.length->gI (spD l c) a<=G):
 ∀(n a:Nat)(x:Lab),dlM l C a x<n->a<l.length->InR l home x->
  (∀q∈dlR l V C os p day n a x,(0<=q.1/\q.1<l.length)/\q.2.Home=home)/\ZQg C x.Seen (dlR l V C os p day n a x)/\ZPX l (dlR l V C os p day n a x)/\(dlR l V C os p day n a x).Nodup/\
  (∀q∈dlR l V C os p day n a x,ZP3 l L G q<=ZP3 l L G ((a:Int),dlY l V C os p day a x))/\
  (dlR l V C os p day n a x).length<=ZP3 l L G ((a:Int),dlY l V C os p day a x)+1/\∃r,dlR l V C os p day n a x=((a:Int),dlY l V C os p day a x)::r
 |0,_,_,h,_,_=>absurd h<|ZYT _
 |n+1,a,x,hm,ha,hx=>by
  have hy:=ZQU hv (V:=V) (C:=C) (os:=os) (p:=p) (day:=day) hh (a:=a) hx;have hsn:=ZSY l V C os p day a x;unfold dlR;cases c:(nxT l a (dlY l V C os p day a x).bz).2==0 with
  |false=>
   rw[cond_false];refine⟨λq hq=>?_,⟨hsn,trivial⟩,?_,ZYo.2 ⟨ZY1,ZZb⟩,λq hq=>?_,by simp,_,rfl⟩
   .rw[ZXO]at hq;subst hq;exact⟨⟨by grind,by grind⟩,hy.2⟩
   .show(dlY l V C os p day a x).bz=(a:Int)
    obtain⟨b,hb⟩:∃b:Nat,(dlY l V C os p day a x).bz=b:=⟨_,(ZZd hy.1.1).symm⟩;have:=hy.1.2
    grind [ZSX]
   grind
  |true=>
   obtain⟨b,s1,s2,_,s3,s4⟩:=ZSR hl V C hC os p day<|eq_of_beq c;rw[cond_true,s1,ZY4];obtain⟨i1,i2,i3,i4,i5,i6,r,i7⟩:=ZSZ hv hl V C hC os p day home hh L hL G hG n b (dlY l V C os p day a x) (by omega) s2 hy
   obtain⟨d,hd⟩:∃d:Nat,(dlY l V C os p day a x).bz=d:=⟨_,(ZZd hy.1.1).symm⟩;have hdl:=hy.1.2;have hne:a≠d:=λe=>by rw[hd,e]at c;exact absurd (eq_of_beq c)<|ZVE l d
   have hb':=ZSX hv ha (by omega) hne
   rw[hd,hb']at s1;have hbd:b=ZP2 l a d:=by grind
   obtain⟨n1,n2⟩:=hl.nxt ha (by omega) hne
   rw[<-hbd]at n2;have d1:=hl.all (f:=d) (v:=a) (by omega) ha
   have d2:=hl.all (f:=d) (v:=b) (by omega) s2
   have hlt:ZP3 l L G ((b:Int),dlY l V C os p day b<|dlY l V C os p day a x)<ZP3 l L G ((a:Int),dlY l V C os p day a x):=by
    have hin:=ZQU hv (V:=V) (C:=C) (os:=os) (p:=p) (day:=day) hh (a:=b) hy;unfold ZP3;dsimp only;rw[ZY4,ZY4,hd,ZY4];rcases ZPB l (ZO7 V day<|gI C b) os p day (gI C b) (dlY l V C os p day a x)with⟨_,h⟩|⟨h6,h7,_⟩
    .have h:dlY l V C os p day b (dlY l V C os p day a x)=dlY l V C os p day a x:=h
     grind
    .have h7:(dlY l V C os p day b<|dlY l V C os p day a x).Seen=gI C b:=h7;have hg:=ZPw (D:=C) (v:=b) (by omega)
     obtain⟨j,hj⟩:=ZYp<|hL _<|ZXp hg;have hf:=filter_lt (λk=>decide ((dlY l V C os p day a x).Seen<k)) (λk=>decide (gI C b<k)) L j _ hj (λk hk=>by grind) (decide_eq_true h6)<|by simp
     have hg2:=hG b (dlY l V C os p day b<|dlY l V C os p day a x).bz.toNat s2 (by have:=hin.1;omega)
     rw[h7];have h8:G*((L.filter λk=>decide (gI C b<k)).length+1)<=G*(L.filter λk=>decide ((dlY l V C os p day a x).Seen<k)).length:=Nat.mul_le_mul_left _ hf
     grind
   refine⟨λq hq=>?_,⟨hsn,i2⟩,?_,ZYo.2 ⟨λhq=>?_,i4⟩,λq hq=>?_,?_,_,rfl⟩
   .rcases ZXF.1 hq with rfl|hq
    .exact⟨⟨by grind,by grind⟩,hy.2⟩
    grind
   .rw[i7]at i3⊢;refine⟨?_,i3⟩;show ZP1 l (a:Int) (b:Int)=(1,0)
    unfold ZP1;rw[ZQT hv ha s2,cond_true,ZY4,ZY4,hl.one s3]
   all_goals grind
def ZVF{l:List Off}(hl:VaS l){C:List Int}{L:List Int}(hL:∀c∈C,c∈L){G:Nat}(hG:∀a c:Nat,a<l.length->c<l.length->gI (spD l c) a<=G){a:Nat}(ha:a<l.length)(hC:C.length=l.length){y:Lab}(hy:0<=y.bz/\y.bz<l.length)(hs:gI C a<=y.Seen):ZP3 l L G ((a:Int),y)<=L.length*G:=by
 unfold ZP3;have hg:=ZPw (D:=C) (v:=a)<|by omega
 obtain⟨j,hj⟩:=ZYp<|hL _<|ZXp hg;have hf:=filter_lt (λk=>true) (λk=>decide (y.Seen<k)) L j _ hj (λ_ _=>rfl) rfl (decide_eq_false<|by omega)
 have hfl:(L.filter λ_=>true).length=L.length:=by simp
 rw[hfl]at hf;have h8:G*((L.filter λk=>decide (y.Seen<k)).length+1)<=G*L.length:=Nat.mul_le_mul_left _ hf
 grind
def ZT0{C:List Int}:∀{s:Int}{T:List (Int×Lab)},ZQg C s T->∀(i:Nat)(q:Int×Lab),T[i]?=some q->(T.take<|i+1).foldl (λs q=>max s<|gI C q.1.toNat) s=q.2.Seen
 |s,q::r,⟨h,_⟩,0,q',hq=>by
  grind
 |s,q::r,⟨h,h2⟩,i+1,q',hq=>by
  have:=ZT0 h2 i q' hq;rw[ZZM,ZY5,<-h];exact this
def ZT1{l:List Off}:∀{T:List (Int×Lab)},ZPX l T->∀(i:Nat)(q q':Int×Lab),T[i]?=some q->T[i+1]?=some q'->ZP1 l q.1 q'.1=(1,0)
 |q::q'::r,h,0,a,b,ha,hb=>by cases ha;cases hb;exact h.1
 |q::q'::r,h,i+1,a,b,ha,hb=>ZT1 h.2 i a b ha hb
 |[q],h,0,a,b,ha,hb=>by grind
def ZT2{l:List Off}:∀{T:List (Int×Lab)},ZPX l T->∀q,T[T.length-1]?=some q->q.2.bz=q.1
 |[q],h,a,ha=>by cases ha;exact h
 |q::q'::r,h,a,ha=>ZT2 h.2 a ha
def ZVG{T:List (Int×Lab)}(h:T.Nodup){i k:Nat}{q q':Int×Lab}(hk:k<i)(h1:T[k]?=some q)(h2:T[i]?=some q'):q≠q':=by
 grind [List.pairwise_iff_getElem]
def ZVH{a b a1 a3 a4 a5 b3 b4 b5:Int}{x y:Str}{u v:Bool}(h:(a1,(⟨x,a3,a4,a5,u⟩:Lab))≠(b,⟨y,b3,b4,b5,v⟩)):(a1==b&&(Z3 x y&&(a3==b3&&(a4==b4&&(a5==b5&&u==v)))))=false:=by grind [Z3,Ky]
def ZVI(v0 v2 v6 v17:AV)(nw:Int)(T:List<|Int×Lab)(hn:T.Nodup)(hl:T.length<=100000)(K:Int)(d:Str)(i:Nat)(q:Int×Lab)(hq:T[i]?=some q):
 ∃fr',Zg rE [0,2,6,17,18,22,23,24,25] c3L0b [(0,v0),(2,v2),(6,v6),(17,v17),(18,.ptr 0 0 0 1),(22,I nw),(23,I i),(24,.ptr 1 0 0 1),(25,.int .i64 0)] [.row 3 [dlA T K d],.row 6 [ZOa q]] =
  some (.exit 2,fr',[.row 3 [dlA T K d],.row 6 [ZOa q]])/\Z2 [0,2,6,16,17,18,22,23,24] fr'=[(0,v0),(2,v2),(6,v6),(16,.bot),(17,v17),(18,.ptr 0 0 0 1),(22,I nw),(23,I i),(24,.ptr 1 0 0 1)]:=by
 have hlt:=Z7 hq;have L:=Y8 (E:=rE) (live:=[0,2,6,17,18,22,23,24,25]) (b:=c3L0b) i (λk=>[(0,v0),(2,v2),(6,v6),(17,v17),(18,.ptr 0 0 0 1),(22,I nw),(23,I i),(24,.ptr 1 0 0 1),(25,I k)]) (λ_=>[.row 3 [dlA T K d],.row 6 [ZOa q]]) (λi=>rfl)
  (λk hk=>by
   obtain⟨p,hp⟩:∃p,T[k]?=some p:=⟨_,ZXj<|by omega⟩
   have hne:=ZVG hn hk hp hq;obtain⟨p1,⟨p2,p3,p4,p5,p6⟩⟩:=p;have hne:=ZVH (a:=0) hne;have hg:(T.map ZOa)[k]?=some (.agg [I p1,.str p2,I p3,I p4,I p5,.bool p6]):=Z6 (f:=ZOa) hp;have hi':=Zh hk;have hw:=Zx (n:=k)<|by omega
   refine⟨_,by simp only[go_sem,c3L0b,dlA,ZOa,hg,hi',hw,hne];rfl,?_⟩
   simp[go_sem])
  (e:=.exit 2) (by simp only[go_sem,c3L0b,ZG];rfl) (by simp)
 exact⟨_,L,by simp only[go_sem]⟩
def nwE(C:List Int)(T:List<|Int×Lab)(i:Nat):Int:=(T.take i).foldl (λs q=>max s<|gI C q.1.toNat) (-1)
def ZVJ{C:List Int}{T:List (Int×Lab)}{i:Nat}{q:Int×Lab}(h:T[i]?=some q):nwE C T (i+1)=max (nwE C T i) (gI C q.1.toNat):=by
 grind [nwE,List.take_succ_eq_append_getElem]
def ZVK(ex e2:Bool)(l:List Off)(hS:∀o∈l,OffS o)(C:List Int)(hC:C.length=l.length)(home:Int)(T:List<|Int×Lab)(hn:T.Nodup)(hl:T.length<=100000)(K:Int)(d:Str)
 (h1:∀q∈T,(0<=q.1/\q.1<l.length)/\q.2.Home=home) (h2:ZQg C (-1) T) (h3:ZPX l T):
 ∃fr',Zg rE [0,2,6,17,18,22,23] c3L1b [(0,ofA ex l),(2,.isl false e2 1<|C.map I),(6,I home),(17,.bool true),(18,.ptr 0 0 0 1),(22,I<|-1),(23,.int .i64 0)] [.row 3 [dlA T K d]] =
  some (.exit 0,fr',[.row 3 [dlA T K d]])/\Z2 [16,17,18] fr'=[(16,.bot),(17,.bool true),(18,.ptr 0 0 0 1)]:=by
 have L:=Y8 (E:=rE) (live:=[0,2,6,17,18,22,23]) (b:=c3L1b) T.length (λi=>[(0,ofA ex l),(2,.isl false e2 1<|C.map I),(6,I home),(17,.bool true),(18,.ptr 0 0 0 1),(22,I<|nwE C T i),(23,I i)]) (λ_=>[.row 3 [dlA T K d]]) (λi=>rfl)
  (λi hi=>by
   obtain⟨q,hq⟩:∃q,T[i]?=some q:=⟨_,ZXj hi⟩;obtain⟨⟨f1,f2⟩,f3⟩:=h1 q<|ZXp hq;have hnw:=ZVJ (C:=C) hq;have hsn:nwE C T (i+1)=q.2.Seen:=ZT0 h2 i q hq;have hin:=ZVI (ofA ex l) (.isl false e2 1<|C.map I) (I home) (.bool true) (nwE C T<|i+1) T hn hl K d i q hq;obtain⟨q1,⟨q2,q3,q4,q5,q6⟩⟩:=q;obtain⟨a,rfl⟩:∃a:Nat,q1=a:=⟨_,(ZZd f1).symm⟩;have hg:(T.map ZOa)[i]?=some (.agg [I a,.str q2,I q3,I q4,I q5,.bool q6]):=Z6 (f:=ZOa) hq;have hgc:(C.map I)[a]?=some (I<|gI C a):=Z6 (f:=I)<|ZPw<|by omega
   have hi':=Zh hi;have hw:=Zx (n:=i)<|by omega
   have t1:decide ((a:Int)<0)=false:=decide_eq_false<|by omega
   have t2:decide ((a:Int)>=(C.length:Int))=false:=decide_eq_false<|by omega
   have t3:(0<=(a:Int))=True:=by simp
   have t4:((a:Int)).toNat=a:=rfl;have hmx:max (nwE C T i) (gI C a)=q4:=by grind
   have t5:(q4 != q4)=false:=by simp
   have t6:(home != home)=false:=by simp
   rw[hsn]at hin⊢;subst f3;obtain⟨fr',l1,l2⟩:=hin;unfold ZOa dlA ofA at l1;unfold ofA at l2;unfold ofA;dsimp only at l1;cases i with
   |zero=>
    have t7:decide (((0:Nat):Int)>0)=false:=rfl;refine⟨_,by simp only[go_sem,c3L1b,c3L0,dlA,hg,hgc,hi',hw,hmx,t1,t2,t3,t4,t5,t6,t7,l1,l2,ZXg];rfl,?_⟩
    simp only[go_sem]
   |succ j=>
    obtain⟨p,hp⟩:∃p,T[j]?=some p:=⟨_,ZXj<|by omega⟩
    have hh:=ZT1 h3 j p _ hp hq;have h12:=ZSD ex l hS p.1 a;rw[hh]at h12;obtain⟨p1,⟨p2,p3,p4,p5,p6⟩⟩:=p;have hgp:(T.map ZOa)[j]?=some (.agg [I p1,.str p2,I p3,I p4,I p5,.bool p6]):=Z6 (f:=ZOa) hp;unfold ofA at h12;dsimp only at h12;have t7:decide (((j+1:Nat):Int)>0)=true:=decide_eq_true<|by omega
    have t8:IntKind.i64.wrap (((j+1:Nat):Int)-1)=(j:Int):=by grind [YM]
    have t9:(0<=(j:Int))=True:=by simp
    have ta:((j:Int)).toNat=j:=rfl;have tb:((0:Int) != 0)=false:=rfl;have tc:((1:Int) != 1)=false:=rfl;refine⟨_,by simp only[go_sem,c3L1b,c3L0,dlA,hg,hgc,hgp,hi',hw,hmx,t1,t2,t3,t4,t5,t6,t7,t8,t9,ta,tb,tc,h12,l1,l2,ZXg];rfl,?_⟩
    simp only[go_sem])
  (e:=.exit 0) (by simp only[go_sem,c3L1b,ofA,dlA,ZG,ZXg];rfl) (by simp)
 exact⟨_,L,by simp only[go_sem]⟩
def ZQV[REdz]:Prop:=∀(ex e2:Bool)(l:List Off)(C:List Int),ZQS l->C.length<=10->
 (ZOs l C=false->pfn rE 7 [ofA ex l,.isl false e2 1<|C.map I]=some (.tup [I 0,I 1]))/\
 (ZOs l C=true->∃(L:List Int)(G:Nat),(∀c∈C,c∈L)/\L.length<=10/\(∀a c:Nat,a<l.length->c<l.length->gI (spD l c) a<=G)/\G<=64/\pfn rE 7 [ofA ex l,.isl false e2 1<|C.map I]=some (.tup [I ((L.length*G:Nat):Int),I 0]))
set_option maxHeartbeats 4000000 in
def ZCp(hup:pfn rE 4 []=some (.bool true))(hB:ZQV)(ex e2 e3:Bool)(l:List Off)(hl:l.length<=140737488355328)(V:NL Ver)(hm:∀v∈V.l,v.bc.l.length<=140737488355328)(C:List Int)(os:List Ord)(p:Str)(day home:Int)(door:Str):
 pfn rE 3 [ofA ex l,vsA V,.isl false e2 1<|C.map I,orA false e3 os,.str p,I day,I home,.str door]=some (.bool true):=by
 have hF:=ZVu ex false e2 false e3 l hl V hm C os [p,door]<|by simp
 have z1:((1:Int) != 0)=true:=rfl;have z0:((0:Int) != 0)=false:=rfl;have zz:((1:Int)==1)=true:=rfl;have ze:((0:Int)==0)=true:=rfl;have zf:(((0:Nat):Int)==0)=true:=rfl;have hr:∀h:Hp,rlV h (vsA V)=some (vsA V,h):=λh=>rfl
 cases c1:ZPW l V.l C os [p,door]with
 |false=>
  simp only[c1,ZXn,ZXD,encS]at hF;unfold ofA orA at*;rw[Z5 (f:=3) rfl rfl];simp only[go_sem,c3,hup,hF]
 |true=>
  obtain⟨hT,hW⟩:=ZVw c1;have hp:=hT p<|by simp
  have hd:=hT door<|by simp
  have hD:=ZVA ex false e2 false e3 hW p hp day home door;obtain⟨v1,v2,v3⟩:=hW.va ex;obtain⟨b1,b2⟩:=hB ex e2 l C hW.off hW.cp;simp only[c1,ZXn,ZXD,encS]at hF;cases c2:ZQc l C os p day home door with
  |false=>
   unfold ZPT dlA at hD;simp only[c2,cond_false,ZXD]at hD;cases c5:ZOs l C with
   |false=>
    have b1:=b1 c5;unfold ofA orA at*;rw[Z5 (f:=3) rfl rfl];simp only[go_sem,c3,hup,hF,hD,b1,z1,zz,ze,zf,hr,ZXK]
   |true=>
    obtain⟨L,G,_,_,_,_,b2⟩:=b2 c5;unfold ofA orA at*;rw[Z5 (f:=3) rfl rfl];simp only[go_sem,c3,hup,hF,hD,b2,z1,zz,ze,zf,hr,ZXK]
  |true=>
   have c2':=c2;unfold ZQc at c2';simp only[ZXf,ZXM,decide_eq_false_iff_not]at c2';obtain⟨k1,⟨k4,k5⟩,k6,k7,k8⟩:=c2';have k1':=k1;unfold ZOs at k1';simp only[ZXf,ZXM,beq_iff_eq]at k1';obtain⟨g1,g2,g3⟩:=k1';have hS:=v2 g1;have hV:=ZPx hS g1;have hC:C.length=l.length:=by omega
   obtain⟨L,G,hL,hL2,hG,hG2,b2⟩:=b2 k1;obtain⟨a,rfl⟩:∃a:Nat,home=a:=⟨home.toNat,by omega⟩
   obtain⟨e1,e4,e5,e6,e7,e8,r,e9⟩:=ZSZ g1 hV V C hC os p day a ⟨by omega,by omega⟩ L hL G hG 10000 a (ZOw a door) (ZST hV C hC a (by omega) _) (by omega) ⟨⟨by show(0:Int)<=a;omega,by show(a:Int)<_;omega⟩,rfl⟩
   have hy:=ZQU g1 (V:=V) (C:=C) (os:=os) (p:=p) (day:=day) (home:=(a:Int)) ⟨by omega,by omega⟩ (a:=a) (x:=ZOw a door) ⟨⟨by show(0:Int)<=a;omega,by show(a:Int)<_;omega⟩,rfl⟩
   have hbd:=ZVF hV hL hG (a:=a) (by omega) hC hy.1<|by rw[ZSY];omega
   unfold ZPT at hD;simp only[c2,cond_true]at hD;have hT:ZQQ l V C os p day a door=dlR l V C os p day 10000 a (ZOw a door):=rfl;rw[hT]at hD;generalize dlY l V C os p day a (ZOw a door)=y at*;generalize dlR l V C os p day 10000 a (ZOw a door)=T at*;generalize dlK door _=K at*;generalize dlD _=D at*;have hlen:T.length<=L.length*G+1:=by omega
   have hLG:L.length*G<=10*64:=ZZo hL2 hG2;obtain⟨fr',l1,l2⟩:=ZVK ex e2 l hS C hC a T e6 (by omega) K D e1 e4 e5
   obtain⟨q,hq⟩:∃q,T[T.length-1]?=some q:=⟨_,ZXj<|by rw[e9];simp⟩
   have hlast:=ZT2 e5 q hq;obtain⟨q1,⟨q2,q3,q4,q5,q6⟩⟩:=q;obtain⟨y1,y2,y3,y4,y5⟩:=y;have hgq:(T.map ZOa)[T.length-1]?=some (.agg [I q1,.str q2,I q3,I q4,I q5,.bool q6]):=Z6 (f:=ZOa) hq;have e0:T[0]?=some ((a:Int),⟨y1,y2,y3,y4,y5⟩):=by rw[e9];rfl
   have hg0:(T.map ZOa)[0]?=some (.agg [I a,.str y1,I y2,I y3,I y4,.bool y5]):=Z6 (f:=ZOa) e0;have hgx:ixG (T.map ZOa) 0=some (.agg [I a,.str y1,I y2,I y3,I y4,.bool y5]):=hg0;have hlast:q3=q1:=hlast;subst hlast;have hpos:1<=T.length:=by rw[e9];simp
   have t1:decide ((T.length:Int)<1)=false:=decide_eq_false<|by omega
   have t2:IntKind.i64.wrap (((L.length*G:Nat):Int)+1)=((L.length*G+1:Nat):Int):=by rw[YM (by omega)<|by omega];omega
   have t3:decide ((T.length:Int)>((L.length*G+1:Nat):Int))=false:=decide_eq_false<|by omega
   have t4:(((a:Nat):Int) != ((a:Nat):Int))=false:=by simp
   have t5:IntKind.i64.wrap ((T.length:Int)-1)=((T.length-1:Nat):Int):=by rw[YM (by omega)<|by omega];omega
   have t6:(0<=(((T.length-1:Nat)):Int))=True:=by simp
   have t7:((((T.length-1:Nat)):Int)).toNat=T.length-1:=rfl;have t8:(q3==q3)=true:=beq_self_eq_true _;simp only[dlA,ofA,orA]at*;rw[Z5 (f:=3) rfl rfl];simp only[go_sem,c3,c3L1,hup,hF,hD,b2,z0,hr,hgx,hgq,t1,t2,t3,t4,t5,t6,t7,t8,l1,l2,ZXg]
end Go.AM
namespace Go.AM
open Go
def c18:ACode:=
 .seq (.region [o 2<|.mv<|.c<|.isl false false 1 []])<|
.seq (.keep [3]<|.region [o 4<|.mv<|.t 0,
 o 5 (.call false 42 [(.t 4)]),
 o 3 (.mv<|.t 5)])<|
.seq (.region [o 6<|.mv<|.t 3,
 o 7 (.call false 43 [(.t 6)])])<|
.seq (.region [o 8<|.mv<|.t 3,
 o 2 (.mv<|.t 8)])<|
.ret
def a18:AFun:=⟨[.tmp 2],c18⟩
def c42:ACode:=
 .seq (.region [o 2<|.mv<|.c<|.isl false false 1 []])<|
.seq (.keep [2]<|.region [o 3<|.mv<|.t 0,
 o 4 (.call false 104 [(.c<|.isl false true 1 []),(.t 3)]),
 o 2 (.mv<|.t 4)])<|
.ret
def a42:AFun:=⟨[.tmp 2],c42⟩
def c104R0a:ACode:=
 .region [o 5<|.mv<|.t 7]
def c104R0b:ACode:=
 .keep []<|.block 1<|
  .keep []<|.region [o 8<|.load none<|.t 2,
   o 9 (.mv<|.t 5),
   o 10 (.bsl true false 1 (.int .i64 0) 1 [(0,(.t 9))]),
   o 11 (.app false 1 8 (.t 8)<|.t 10),
   ⟨none,.store 1 (.t 2)<|.t 11,none⟩]
def c104:ACode:=
 .seq (.region [o 2<|.box 1<|.t 0,
  o 4 (.mv<|.c<|.isl false false 1 [])])<|
.seq (.seq (.region [o 6<|.mv<|.t 1])<|
 .keep [2]<|.block 0<|
  .rangeFunc (.t 6) [7] c104R0a c104R0b)<|
.seq (.region [o 12<|.load none<|.t 2,
 o 4 (.mv<|.t 12)])<|
.ret
def a104:AFun:=⟨[.tmp 4],c104⟩
def ZQh(f:Nat):Option AFun:=bif Nat.blt f 42 then(bif Nat.beq f 18 then some a18 else none)else(bif Nat.blt f 104 then(bif Nat.beq f 42 then some a42 else none)else(bif Nat.beq f 104 then some a104 else none))
variable [REdz]
noncomputable def eQ:Env:={rE with fn:=λf=>bif Nat.beq f 18||(Nat.beq f 42||Nat.beq f 104)then ZQh f else N0 f,sum:=λf=>bif Nat.beq f 18||Nat.beq f 7 then none else bif Nat.beq f 43 then some ZP6 else bif Nat.beq f 8 then some (ZOc<|pfn rE 8)else bif Nat.beq f 12 then some (ZOc<|pfn rE 12)else rE.sum f}
def ZQi{E:Env}{f:Nat}{g:List AV->Option AV}{args:List AV}{v:AV}(hs:E.sum f=some (ZOc g))(hc:Z4 args=true)(hg:g args=some v)(hv:clean v=true):pfn E f args=some v:=by
 unfold pfn;rw[V8 hs];unfold ZOc;rw[hc,cond_true,hg];exact EB _ _ hv
abbrev ZOg(c:AV):Fr:=[(6,c),(4,.isl false false 1 []),(2,.ptr 0 0 0 1),(0,.isl false true 1 []),(1,c)]
def vaV(C:List Int)(k:Nat):AV:=bif k==0 then .isl false true 1 []else .sl 2 k 0 k false
def vaR(C:List Int)(k:Nat):Hp:=bif k==0 then []else [.row 1<|(C.take k).map I]
def vaH(c:AV)(C:List Int)(k:Nat):Hp:=.row 1 [vaV C k]::.loop .ready .normal (ZOg c) [7] c104R0a c104R0b::vaR C k
abbrev vaC(e2:Bool)(C:List Int):AV:=.clo (.func 44) [] [.iptr false [.isl false e2 1<|C.map I]]
def ZVL(h:Hp)(x:Int):appW h false 1 8 (.isl false true 1 []) (.isl false false 1 [I x])=some (.sl h.length 1 0 1 false,h++[.row 1 [I x]]):=by grind [Qq,appW,Qt,Q2,Yp,ZM,ZH,J1]
def ZVM(e2:Bool)(C:List Int)(hl:C.length<=1000)(k:Nat)(x:Int)(hx:C[k]?=some x):U4 eQ 1 [I x] (vaH (vaC e2 C) C k)=some (.bool true,vaH (vaC e2 C) C<|k+1):=by
 have hlt:=Z7 hx;have htk:C.take (k+1)=C.take k++[x]:=by rw[ZYR hlt,(ZXu.1 hx).2]
 have hbc:∀n,bel n (vaC e2 C)=true:=λn=>by
  show Zd n [.iptr false [.isl false e2 1<|C.map I]]=true
  grind [ZN,Z4,clean]
 cases k with
 |zero=>
  have h:=Ss (E:=eQ) (b:=1) (args:=[I x]) (h:=vaH (vaC e2 C) C 0) (fr:=ZOg<|vaC e2 C) (ps:=[7]) (assign:=c104R0a) (body:=c104R0b)
   (fr0:=(7,I x)::ZOg (vaC e2 C)) rfl rfl (by simp only[go_sem,c104R0a]<;>rfl) (by rfl)
   (by simp only[go_sem,vaH,vaV,c104R0b,ZVL,ZXo]<;>rfl) (by rfl)
  rw[h];unfold vaH vaV vaR;rw[htk];rfl
 |succ k=>
  have hlk:(C.take<|k+1).length=k+1:=by grind
  have hz:(k+1==0)=false:=rfl;have hz2:(k+1+1==0)=false:=rfl;have hap:=λ(r0 r1:AObj)=>XC (h:=[r0,r1,.row 1<|(C.take<|k+1).map I]) (fz:=false) (b:=2) (g:=k+1) (sz:=1) (es:=(C.take<|k+1).map I) (bw:=false) (ex:=false) (ys:=[I x]) (bytes:=8) (by unfold rowAt;show(bif ((C.take<|k+1).map I).length==k+1 then _ else none)=_;rw[ZXg,hlk,beq_self_eq_true,cond_true]) rfl (by rfl) (by omega) (by omega) (by grind)
  have h:=Ss (E:=eQ) (b:=1) (args:=[I x]) (h:=vaH (vaC e2 C) C<|k+1) (fr:=ZOg<|vaC e2 C) (ps:=[7]) (assign:=c104R0a) (body:=c104R0b)
   (fr0:=(7,I x)::ZOg (vaC e2 C)) rfl rfl (by simp only[go_sem,vaH,vaV,vaR,c104R0a,hz]<;>rfl) (by rfl)
   (by simp only[go_sem,vaH,vaV,vaR,c104R0b,hbc,hz,hap,ZXl,ZXo]<;>rfl) (by rfl)
  rw[h];unfold vaH vaV vaR;rw[htk,hz2,ZXx];rfl
def ZVN(e2:Bool)(C:List Int)(hl:C.length<=1000):
 ∃fr',Zg eQ [0,5,6,7] c44L0b [(0,.yld 1),(5,.isl false e2 1<|C.map I),(6,I C.length),(7,.int .i64 0)] (vaH (vaC e2 C) C 0)=some (.exit 0,fr',vaH (vaC e2 C) C C.length):=by
 have L:=Y8 (E:=eQ) (live:=[0,5,6,7]) (b:=c44L0b) C.length (λi=>[(0,.yld 1),(5,.isl false e2 1<|C.map I),(6,I C.length),(7,I i)]) (λi=>vaH (vaC e2 C) C i) (λi=>rfl)
  (λi hi=>by
   obtain⟨x,hx⟩:∃x,C[i]?=some x:=⟨_,ZXj hi⟩;have hg:=Z6 (f:=I) hx;have hi':=Zh hi;have hw:=Zx (n:=i)<|by omega
   have hy:=ZVM e2 C hl i x hx;have hbc:∀n,bel n (vaC e2 C)=true:=λn=>by
    show Zd n [.iptr false [.isl false e2 1<|C.map I]]=true
    grind [ZN,Z4,clean]
   have hbI:∀n(K:List Int),Zd n (K.map I)=true:=λn K=>ZN _<|Zw (λt=>rfl) K
   cases i with
   |zero=>
    have hy:U4 eQ 1 [I x] [.row 1 [.isl false true 1 []],.loop .ready .normal (ZOg<|vaC e2 C) [7] c104R0a c104R0b]=some (.bool true,[.row 1 [.sl 2 1 0 1 false],.loop .ready .normal (ZOg<|vaC e2 C) [7] c104R0a c104R0b,.row 1<|(C.take 1).map I]):=hy;refine⟨_,by simp only[go_sem,c44L0b,vaH,vaV,vaR,S3,hg,hi',hw,hy];rfl,?_⟩
    simp[go_sem]
   |succ k=>
    have hy:U4 eQ 1 [I x] [.row 1 [.sl 2 (k+1) 0 (k+1) false],.loop .ready .normal (ZOg<|vaC e2 C) [7] c104R0a c104R0b,.row 1<|(C.take<|k+1).map I]=some (.bool true,[.row 1 [.sl 2 (k+1+1) 0 (k+1+1) false],.loop .ready .normal (ZOg<|vaC e2 C) [7] c104R0a c104R0b,.row 1<|(C.take<|k+1+1).map I]):=hy;have e1:vaH (vaC e2 C) C (k+1)=[.row 1 [.sl 2 (k+1) 0 (k+1) false],.loop .ready .normal (ZOg<|vaC e2 C) [7] c104R0a c104R0b,.row 1<|(C.take<|k+1).map I]:=rfl;have e2':vaH (vaC e2 C) C (k+1+1)=[.row 1 [.sl 2 (k+1+1) 0 (k+1+1) false],.loop .ready .normal (ZOg<|vaC e2 C) [7] c104R0a c104R0b,.row 1<|(C.take<|k+1+1).map I]:=rfl;rw[e1,e2'];refine⟨_,by simp only[go_sem,c44L0b,S3,hg,hi',hw,hy,hbc,hbI];rfl,?_⟩
    simp only[go_sem])
  (e:=.exit 0) (by simp only[go_sem,c44L0b,ZG,GH];rfl) (by simp)
 grind
def ZVO(e2:Bool)(C:List Int)(hl:C.length<=1000)(h1:1<=C.length):
 rf eQ (vaC e2 C) [7] c104R0a c104R0b (ZOg<|vaC e2 C) [.row 1 [.isl false true 1 []]]=some (.normal,ZOg<|vaC e2 C,[.row 1 [.sl 2 C.length 0 C.length false],.loop .exhausted .normal (ZOg<|vaC e2 C) [7] c104R0a c104R0b,.row 1<|C.map I]):=by
 obtain⟨fr',L⟩:=ZVN e2 C hl;have hz:(C.length==0)=false:=by grind
 unfold vaH vaV vaR at L;rw[hz,ZXG]at L;have L':Zg eQ [0,5,6,7] c44L0b [(0,.yld 1),(5,.isl false e2 1<|C.map I),(6,I C.length),(7,.int .i64 0)] [.row 1 [.isl false true 1 []],.loop .ready .normal (ZOg<|vaC e2 C) [7] c104R0a c104R0b]=some (.exit 0,fr',[.row 1 [.sl 2 C.length 0 C.length false],.loop .ready .normal (ZOg<|vaC e2 C) [7] c104R0a c104R0b,.row 1<|C.map I]):=L;have hbI:∀n(K:List Int),Zd n (K.map I)=true:=λn K=>ZN _<|Zw (λt=>rfl) K
 rw[Z1k (c:=c44) rfl];simp[go_sem,c44,c44L0,L',ZXg];rfl
def ZVP(e2:Bool)(C:List Int)(hl:C.length<=1000)(h1:1<=C.length):∃p0 p1,fnV eQ 18 [vaC e2 C] []=some (.sl 2 C.length 0 C.length false,[p0,p1,.row 1<|Yk<|C.map I]):=by
 have hrf:=ZVO e2 C hl h1;have hbI:∀n(K:List Int),Zd n (K.map I)=true:=λn K=>ZN _<|Zw (λt=>rfl) K
 have h169:fnV eQ 104 [.isl false true 1 [],vaC e2 C] []=some (.sl 2 C.length 0 C.length false,[.row 1 [.sl 2 C.length 0 C.length false],.loop .exhausted .normal (ZOg<|vaC e2 C) [7] c104R0a c104R0b,.row 1<|C.map I]):=by
  rw[Q6 (f:=104) rfl rfl];simp[go_sem,c104,Sr,hrf]
 have h80:fnV eQ 42 [vaC e2 C] []=some (.sl 2 C.length 0 C.length false,[.row 1 [.sl 2 C.length 0 C.length false],.loop .exhausted .normal (ZOg<|vaC e2 C) [7] c104R0a c104R0b,.row 1<|C.map I]):=by
  rw[Q6 (f:=42) rfl rfl];simp[go_sem,c42,h169]
 have h81:fnV eQ 43 [.sl 2 C.length 0 C.length false] [.row 1 [.sl 2 C.length 0 C.length false],.loop .exhausted .normal (ZOg<|vaC e2 C) [7] c104R0a c104R0b,.row 1<|C.map I]=some (.tup [],[.row 1 [.sl 2 C.length 0 C.length false],.loop .exhausted .normal (ZOg<|vaC e2 C) [7] c104R0a c104R0b,.row 1<|Yk<|C.map I]):=by
  rw[V8 (s:=ZP6) rfl];have ha:(C.map I).all ZvX=true:=by simp[ZvX]
  have hle:Nat.ble (C.map I).length 1000000=true:=ZXH<|by grind
  have hl2:(C.map I).length=C.length:=ZXg ..;rw[hl2]at hle;show(bif (1==1)&&((C.map I).length==C.length&&(0==0&&(C.length==C.length&&((C.map I).all ZvX&&Nat.ble (C.map I).length 1000000))))then _ else none)=_
  simp[ha,hle,cond_true];rfl
 rw[Q6 (f:=18) rfl rfl];exact⟨_,_,by simp only[go_sem,c18,h80,h81];rfl⟩
noncomputable def grI(l:List Off)(i:Nat)(g:Int)(n:Nat):Int:=(List.range n).foldl (λg k=>max g<|gI (spD l i) k) g
noncomputable def grO(l:List Off)(n:Nat):Int:=(List.range n).foldl (λg i=>grI l i g i) 0
theorem ZT3(l:List Off)(i:Nat)(g:Int)(n:Nat):grI l i g (n+1)=max (grI l i g n) (gI (spD l i) n):=by
 grind [grI,List.range_succ]
def ZT4(l:List Off)(n:Nat):grO l (n+1)=grI l n (grO l n) n:=by
 grind [grO,List.range_succ]
def ZT5(l:List Off)(i:Nat)(g:Int):∀n,g<=grI l i g n/\(∀k,k<n->gI (spD l i) k<=grI l i g n)/\((g<=64/\∀k,k<n->gI (spD l i) k<=64)->grI l i g n<=64)
 |0=>⟨ZYN _,λk h=>absurd h<|ZYT _,λh=>h.1⟩
 |n+1=>by
  obtain⟨h1,h2,h3⟩:=ZT5 l i g n
  grind [ZT3]
def ZQW{l:List Off}(hl:VaS l):∀n,n<=l.length->0<=grO l n/\grO l n<=64/\∀i k,i<n->k<i->gI (spD l i) k<=grO l n
 |0,_=>⟨ZYN _,by show(0:Int)<=64;omega,λi k h=>absurd h<|ZYT _⟩
 |n+1,hn=>by
  obtain⟨h1,h2,h3⟩:=ZQW hl n<|by omega
  obtain⟨g1,g2,g3⟩:=ZT5 l n (grO l n) n;rw[ZT4];refine⟨by omega,g3 ⟨h2,λk hk=>(hl.all (by omega)<|by omega).2.2⟩,λi k hi hk=>?_⟩
  grind
theorem ZVQ{l:List Off}(hl:VaS l){a c:Nat}(ha:a<l.length)(hc:c<l.length):gI (spD l c) a<=grO l l.length:=by
 obtain⟨h1,h2,h3⟩:=ZQW hl l.length<|ZXh _;rcases ZYj a c with h|h
 .grind
 .rcases ZYj c a with h'|h'
  .rw[hl.sm hc ha];grind
  .have:a=c:=by omega
   subst this;have:=(hl.z ha ha).2 rfl;omega
def ZT6(x:Int):∀(p:Int)(r:List Int),x∈p::r->x∈p::ZvA p r
 |p,[],h=>h
 |p,b::r,h=>by
  show x∈p::(bif b==p then ZvA b r else b::ZvA b r)
  have ih:=ZT6 x b r
  grind
def ZT7:∀(p:Int)(r:List Int),(ZvA p r).length<=r.length
 |p,[]=>ZXh _
 |p,b::r=>by
  show(bif b==p then ZvA b r else b::ZvA b r).length<=_
  have:=ZT7 b r
  grind
def ZVR(C:List Int):∃L:List Int,Ys (Yk<|C.map I)=L.map I/\(∀c∈C,c∈L)/\L.length<=C.length:=by
 have hi:Yk (C.map I)=(Zox C).map zV:=Zpl C;have hp:=Zp3 C;rw[hi];cases h:Zox C with
 |nil=>
  rw[h]at hp;have:C=[]:=hp.nil_eq.symm;subst this;exact⟨[],rfl,λc hc=>hc,ZXh _⟩
 |cons a r=>
  rw[h]at hp;refine⟨a::ZvA a r,Zyh a r,λc hc=>ZT6 c a r<|hp.mem_iff.2 hc,?_⟩
  have:=ZT7 a r;have:=hp.length_eq
  grind
def ZVS(ex:Bool)(l:List Off)(h12:∀i k:Nat,i<l.length->k<l.length->pfn eQ 8 [ofA ex l,I i,I k]=some (.tup [I<|gI (spD l i) k,I 0]))(hl64:l.length<=64)(v1:AV)(i:Nat)(hi:i<l.length)(g:Int)(v17 v18:AV):
 ∃fr',Zg eQ [0,1,6,7,17,18,21,22] c7L0b [(0,ofA ex l),(1,v1),(6,I g),(7,I i),(17,v17),(18,v18),(21,I i),(22,.int .i64 0)] []=some (.exit 2,fr',[])/\
  Z2 [0,1,6,17,18] fr'=[(0,ofA ex l),(1,v1),(6,I<|grI l i g i),(17,v17),(18,v18)]:=by
 have L:=Y8 (E:=eQ) (live:=[0,1,6,7,17,18,21,22]) (b:=c7L0b) i (λk=>[(0,ofA ex l),(1,v1),(6,I<|grI l i g k),(7,I i),(17,v17),(18,v18),(21,I i),(22,I k)]) (λ_=>[]) (λi=>rfl)
  (λk hk=>by
   have hi':=Zh hk;have hw:=Zx (n:=k)<|by omega
   have h:=h12 i k hi<|by omega
   have hs:=ZT3 l i g k;unfold ofA at*;refine⟨_,by simp only[go_sem,c7L0b,hi',hw,h];rfl,?_⟩
   simp[go_sem,<-hs])
  (e:=.exit 2) (by simp only[go_sem,c7L0b,ZG];rfl) (by simp)
 exact⟨_,L,by simp[go_sem]⟩
def ZVT(ex:Bool)(l:List Off)(h12:∀i k:Nat,i<l.length->k<l.length->pfn eQ 8 [ofA ex l,I i,I k]=some (.tup [I<|gI (spD l i) k,I 0]))(hl64:l.length<=64)(v1:AV):
 ∃fr',Zg eQ [0,1,6,17,18] c7L1b [(0,ofA ex l),(1,v1),(6,.int .i64 0),(17,I l.length),(18,.int .i64 0)] []=some (.exit 0,fr',[])/\
  Z2 [1,6] fr'=[(1,v1),(6,I<|grO l l.length)]:=by
 have L:=Y8 (E:=eQ) (live:=[0,1,6,17,18]) (b:=c7L1b) l.length (λi=>[(0,ofA ex l),(1,v1),(6,I<|grO l i),(17,I l.length),(18,I i)]) (λ_=>[]) (λi=>rfl)
  (λi hi=>by
   have hi':=Zh hi;have hw:=Zx (n:=i)<|by omega
   obtain⟨fr',l1,l2⟩:=ZVS ex l h12 hl64 v1 i hi (grO l i) (I l.length)<|I i;have hs:=ZT4 l i;refine⟨_,by simp only[go_sem,c7L1b,c7L0,hi',hw,l1,l2];rfl,?_⟩
   simp[go_sem,<-hs])
  (e:=.exit 0) (by simp only[go_sem,c7L1b,ZG];rfl) (by simp)
 exact⟨_,L,by simp[go_sem]⟩
def ZVU(ex e2:Bool)(l:List Off)(C:List Int)(ho:ZQS l)(hC:C.length<=10):
 (ZOs l C=false->pfn eQ 7 [ofA ex l,.isl false e2 1<|C.map I]=some (.tup [I 0,I 1]))/\
 (ZOs l C=true->∃(L:List Int)(G:Nat),(∀c∈C,c∈L)/\L.length<=10/\(∀a c:Nat,a<l.length->c<l.length->gI (spD l c) a<=G)/\G<=64/\pfn eQ 7 [ofA ex l,.isl false e2 1<|C.map I]=some (.tup [I ((L.length*G:Nat):Int),I 0])):=by
 obtain⟨hv,hS,_⟩:=ZSV ho ex;have hcl:Z4 [ofA ex l,.isl false e2 1<|C.map I]=true:=by simp[Z4,clean,ZP0]
 have h29:pfn eQ 12 [ofA ex l,.isl false e2 1<|C.map I]=some (.bool<|ZOs l C):=ZQi (E:=eQ) (g:=pfn rE 12) rfl hcl (ZSL ex false e2 l hv C<|by omega) rfl
 cases c:ZOs l C with
 |false=>
  rw[c]at h29;refine⟨λ_=>?_,λh=>(by grind)⟩
  unfold ofA at*;rw[Z5 (f:=7) rfl rfl];simp[go_sem,c7,h29]
 |true=>
  rw[c]at h29;refine⟨λh=>(by grind),λ_=>?_⟩
  have c':=c;unfold ZOs at c';simp only[ZXf,beq_iff_eq]at c';have hS:=hS c'.1;have hV:=ZPx hS c'.1;have hl64:=hV.l64;have hl1:=hV.pos;obtain⟨L,hL1,hL2,hL3⟩:=ZVR C;obtain⟨g1,g2,_⟩:=ZQW hV l.length<|ZXh _;have h12:∀i k:Nat,i<l.length->k<l.length->pfn eQ 8 [ofA ex l,I i,I k]=some (.tup [I<|gI (spD l i) k,I 0]):=λi k hi hk=>by
   have h:=ZSD ex l hS i k;unfold ZP1 at h;rw[ZQT c'.1 hi hk,cond_true,ZY4,ZY4]at h;exact ZQi (E:=eQ) (g:=pfn rE 8) rfl (by simp[Z4,clean,ZP0]) h rfl
  obtain⟨fr',l1,l2⟩:=ZVT ex l h12 hl64<|.isl false e2 1<|C.map I;obtain⟨G,hG⟩:∃G:Nat,grO l l.length=G:=⟨_,(ZZd g1).symm⟩;refine⟨L,G,hL2,by omega,λa c ha hc=>by grind [ZVQ],by omega,?_⟩
  obtain⟨p0,p1,h34⟩:=ZVP e2 C (by omega)<|by omega
  have hsl:(Yk<|C.map I).length=C.length:=by
   have:Yk (C.map I)=(Zox C).map zV:=Zpl C;rw[this,ZXg,(Zp3 C).length_eq]
  have h36:∃X:List AV,X.length=C.length/\fnV eQ 20 [.sl 2 C.length 0 C.length false] [p0,p1,.row 1<|Yk<|C.map I]=some (.sl 2 C.length 0 L.length false,[p0,p1,.row 1 X]):=by
   rw[V8 (s:=ZvY) rfl];have ha:(Yk<|C.map I).all ZvX=true:=by
    simp_all[Zpl,ZvX]
   have hle:Nat.ble C.length 1000000=true:=ZXH<|by omega
   have hcl:(Ys<|Yk<|C.map I).length=L.length:=by rw[hL1,ZXg]
   refine⟨Ys (Yk<|C.map I)++List.replicate (C.length-(Ys<|Yk<|C.map I).length) (.int .i64 0),by grind,?_⟩
   show(bif (1==1)&&((Yk<|C.map I).length==C.length&&(0==0&&(C.length==C.length&&((Yk<|C.map I).all ZvX&&Nat.ble (Yk<|C.map I).length 1000000))))then _ else none)=_
   simp only[ha,hsl,hle,hcl,beq_self_eq_true,ZY3,cond_true];rfl
  obtain⟨X,hX,h36⟩:=h36;have hw:IntKind.i64.wrap ((L.length:Int)*(G:Int))=((L.length*G:Nat):Int):=by
   have:L.length*G<=10*64:=ZZo (by omega)<|by omega
   grind [YM]
  rw[hG]at l2;unfold ofA at*;rw[Z5 (f:=7) rfl rfl];have hib:Va [] 1 (.isl false e2 1<|C.map I)=some (.iptr false [.isl false e2 1<|C.map I],[]):=rfl;have h35:fnV eQ 19 [.isl false e2 1<|C.map I] []=some (vaC e2 C,[]):=by
   rw[Q6 (f:=19) rfl rfl];simp only[go_sem,c19,hib]
  simp only[go_sem,c7,c7L1,h29,h34,h35,h36,hX,hw,l1,l2,beq_self_eq_true,ZXg]
end Go.AM
