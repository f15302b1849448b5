/- What the functions of the program compute, part 3, for ClaimsMatchesReference. No condition. -/
import Derived.Test.YtbnmnkpkjmoehaaGreatDoorP3b
set_option linter.unusedVariables false
set_option linter.defProp false
set_option linter.unusedSimpArgs false
set_option linter.unusedSectionVars false
namespace Go.AM
open Go
variable [REdz]
def WQ(x:Gm):Bool:=[x.Id].all ZU&&(XQ x.bh.l&&(!decide ((x.Ring.l.length:Int)>12)))
def WR(x:Ev):Bool:=[x.Id].all ZU&&(XQ x.bh.l&&(!decide ((x.Line.l.length:Int)>12)))
def WS(x:Fa):Bool:=[x.Id].all ZU&&(!decide ((x.Ring.l.length:Int)>12))
def WT(x:Gc):Bool:=[x.Id,x.Fa,x.Ev,x.An.bk,x.Veil].all ZU&&(!decide ((x.After.l.length:Int)>10)&&(x.After.l.all ZU))
def WU(x:bc):Bool:=[x.Id,x.Gc,x.Text].all ZU
def Z4A(s:Sta)(hl:s.Ga.length<=1000):∃fr',Zg rE [1,3] c17L0b [(1,stI s),(3,.int .i64 0)] []=some (if s.Ga.all WQ=true then .exit 0 else .ret,fr',[])/\(s.Ga.all WQ=true->get fr' 1=stI s/\get fr' 2=.bot)/\(s.Ga.all WQ=false->get fr' 2=.bool false):=by
 have L:=QT (E:=rE) (live:=[1,3]) (b:=c17L0b) (h:=[]) s.Ga (λ_ x=>WQ x) (λi=>[(1,stI s),(3,I i)]) 0 (λfr=>get fr 1=stI s/\get fr 2=.bot) (λfr=>get fr 2=.bool false) (λi=>rfl)
  (λi x hx hP=>by
   have hg:=Z6 (f:=Gm.enc) hx;have hi:=Zh<|Z7 hx;have hw:=Zx (n:=i) (by have:=Z7 hx;omega)
   have hS:=JK x.Id;have hN:=UQ x.bh.ex x.bh.l;simp only[WQ,ZWe,ZWD]at hP;obtain⟨p0,p1,p2⟩:=hP;rw[p0]at hS;rw[p1]at hN;refine⟨_,by simp only[go_sem,c17L0b,hg,hi,hw,Gm.enc,NL.enc,hS,hN,p2];rfl,?_⟩
   simp only[go_sem])
  (λi x hx hP=>by
   have hg:=Z6 (f:=Gm.enc) hx;have hi:=Zh<|Z7 hx;have hS:=JK x.Id;have hN:=UQ x.bh.ex x.bh.l;unfold WQ at hP;cases c0:[x.Id].all ZU with
   |false=>
    rw[c0]at hS;refine⟨_,by simp only[go_sem,c17L0b,hg,hi,Gm.enc,NL.enc,hS];rfl,?_⟩
    simp only[go_sem]
   |true=>
   rw[c0]at hS hP;cases c1:XQ x.bh.l with
   |false=>
    rw[c1]at hN;refine⟨_,by simp only[go_sem,c17L0b,hg,hi,Gm.enc,NL.enc,hS,hN];rfl,?_⟩
    simp only[go_sem]
   |true=>
   rw[c1]at hN hP;cases c2:decide ((x.Ring.l.length:Int)>12)with
   |true=>
    refine⟨_,by simp only[go_sem,c17L0b,hg,hi,Gm.enc,NL.enc,hS,hN,c2];rfl,?_⟩
    simp only[go_sem]
   |false=>
   rw[c2]at hP;cases hP)
  (⟨_,by simp only[go_sem,c17L0b,ZG];rfl,by simp only[go_sem],by simp only[go_sem]⟩)
 rw[QE]at L;exact L
def Z4B(s:Sta)(hl:s.Gr.length<=1000):∃fr',Zg rE [1,4] c17L1b [(1,stI s),(4,.int .i64 0)] []=some (if s.Gr.all WR=true then .exit 2 else .ret,fr',[])/\(s.Gr.all WR=true->get fr' 1=stI s/\get fr' 2=.bot)/\(s.Gr.all WR=false->get fr' 2=.bool false):=by
 have L:=QT (E:=rE) (live:=[1,4]) (b:=c17L1b) (h:=[]) s.Gr (λ_ x=>WR x) (λi=>[(1,stI s),(4,I i)]) 2 (λfr=>get fr 1=stI s/\get fr 2=.bot) (λfr=>get fr 2=.bool false) (λi=>rfl)
  (λi x hx hP=>by
   have hg:=Z6 (f:=Ev.enc) hx;have hi:=Zh<|Z7 hx;have hw:=Zx (n:=i) (by have:=Z7 hx;omega)
   have hS:=JK x.Id;have hN:=UQ x.bh.ex x.bh.l;simp only[WR,ZWe,ZWD]at hP;obtain⟨p0,p1,p2⟩:=hP;rw[p0]at hS;rw[p1]at hN;refine⟨_,by simp only[go_sem,c17L1b,hg,hi,hw,Ev.enc,NL.enc,hS,hN,p2];rfl,?_⟩
   simp only[go_sem])
  (λi x hx hP=>by
   have hg:=Z6 (f:=Ev.enc) hx;have hi:=Zh<|Z7 hx;have hS:=JK x.Id;have hN:=UQ x.bh.ex x.bh.l;unfold WR at hP;cases c0:[x.Id].all ZU with
   |false=>
    rw[c0]at hS;refine⟨_,by simp only[go_sem,c17L1b,hg,hi,Ev.enc,NL.enc,hS];rfl,?_⟩
    simp only[go_sem]
   |true=>
   rw[c0]at hS hP;cases c1:XQ x.bh.l with
   |false=>
    rw[c1]at hN;refine⟨_,by simp only[go_sem,c17L1b,hg,hi,Ev.enc,NL.enc,hS,hN];rfl,?_⟩
    simp only[go_sem]
   |true=>
   rw[c1]at hN hP;cases c2:decide ((x.Line.l.length:Int)>12)with
   |true=>
    refine⟨_,by simp only[go_sem,c17L1b,hg,hi,Ev.enc,NL.enc,hS,hN,c2];rfl,?_⟩
    simp only[go_sem]
   |false=>
   rw[c2]at hP;cases hP)
  (⟨_,by simp only[go_sem,c17L1b,ZG];rfl,by simp only[go_sem],by simp only[go_sem]⟩)
 rw[QE]at L;exact L
def Z4C(s:Sta)(hl:s.By.length<=1000):∃fr',Zg rE [1,5] c17L2b [(1,stI s),(5,.int .i64 0)] []=some (if s.By.all WS=true then .exit 4 else .ret,fr',[])/\(s.By.all WS=true->get fr' 1=stI s/\get fr' 2=.bot)/\(s.By.all WS=false->get fr' 2=.bool false):=by
 have L:=QT (E:=rE) (live:=[1,5]) (b:=c17L2b) (h:=[]) s.By (λ_ x=>WS x) (λi=>[(1,stI s),(5,I i)]) 4 (λfr=>get fr 1=stI s/\get fr 2=.bot) (λfr=>get fr 2=.bool false) (λi=>rfl)
  (λi x hx hP=>by
   have hg:=Z6 (f:=Fa.enc) hx;have hi:=Zh<|Z7 hx;have hw:=Zx (n:=i) (by have:=Z7 hx;omega)
   have hS:=JK x.Id;simp only[WS,ZWe,ZWD]at hP;obtain⟨p0,p1⟩:=hP;rw[p0]at hS;refine⟨_,by simp only[go_sem,c17L2b,hg,hi,hw,Fa.enc,NL.enc,hS,p1];rfl,?_⟩
   simp only[go_sem])
  (λi x hx hP=>by
   have hg:=Z6 (f:=Fa.enc) hx;have hi:=Zh<|Z7 hx;have hS:=JK x.Id;unfold WS at hP;cases c0:[x.Id].all ZU with
   |false=>
    rw[c0]at hS;refine⟨_,by simp only[go_sem,c17L2b,hg,hi,Fa.enc,NL.enc,hS];rfl,?_⟩
    simp only[go_sem]
   |true=>
   rw[c0]at hS hP;cases c2:decide ((x.Ring.l.length:Int)>12)with
   |true=>
    refine⟨_,by simp only[go_sem,c17L2b,hg,hi,Fa.enc,NL.enc,hS,c2];rfl,?_⟩
    simp only[go_sem]
   |false=>
   rw[c2]at hP;cases hP)
  (⟨_,by simp only[go_sem,c17L2b,ZG];rfl,by simp only[go_sem],by simp only[go_sem]⟩)
 rw[QE]at L;exact L
def Z4D(s:Sta)(hl:s.Bc.length<=1000):∃fr',Zg rE [1,6] c17L3b [(1,stI s),(6,.int .i64 0)] []=some (if s.Bc.all WT=true then .exit 6 else .ret,fr',[])/\(s.Bc.all WT=true->get fr' 1=stI s/\get fr' 2=.bot)/\(s.Bc.all WT=false->get fr' 2=.bool false):=by
 have L:=QT (E:=rE) (live:=[1,6]) (b:=c17L3b) (h:=[]) s.Bc (λ_ x=>WT x) (λi=>[(1,stI s),(6,I i)]) 6 (λfr=>get fr 1=stI s/\get fr 2=.bot) (λfr=>get fr 2=.bool false) (λi=>rfl)
  (λi x hx hP=>by
   have hg:=Z6 (f:=Gc.enc) hx;have hi:=Zh<|Z7 hx;have hw:=Zx (n:=i) (by have:=Z7 hx;omega)
   have hS:=FQ x.Id x.Fa x.Ev x.An.bk x.Veil;simp only[WT,ZWe,ZWD]at hP;obtain⟨p0,p1,p2⟩:=hP;rw[p0]at hS;have hA:=Vv false x.After.ex x.After.l (by have:=of_decide_eq_false p1;omega)
   rw[p2]at hA;refine⟨_,by simp only[go_sem,c17L3b,hg,hi,hw,Gc.enc,NL.enc,hS,p1,hA];rfl,?_⟩
   simp only[go_sem])
  (λi x hx hP=>by
   have hg:=Z6 (f:=Gc.enc) hx;have hi:=Zh<|Z7 hx;have hS:=FQ x.Id x.Fa x.Ev x.An.bk x.Veil;unfold WT at hP;cases c0:[x.Id,x.Fa,x.Ev,x.An.bk,x.Veil].all ZU with
   |false=>
    rw[c0]at hS;refine⟨_,by simp only[go_sem,c17L3b,hg,hi,Gc.enc,NL.enc,hS];rfl,?_⟩
    simp only[go_sem]
   |true=>
   rw[c0]at hS hP;cases c2:decide ((x.After.l.length:Int)>10)with
   |true=>
    refine⟨_,by simp only[go_sem,c17L3b,hg,hi,Gc.enc,NL.enc,hS,c2];rfl,?_⟩
    simp only[go_sem]
   |false=>
   rw[c2]at hP;have hA:=Vv false x.After.ex x.After.l (by have:=of_decide_eq_false c2;omega)
   cases c3:x.After.l.all ZU with
   |false=>
    rw[c3]at hA;refine⟨_,by simp only[go_sem,c17L3b,hg,hi,Gc.enc,NL.enc,hS,c2,hA];rfl,?_⟩
    simp only[go_sem]
   |true=>rw[c3]at hP;cases hP)
  (⟨_,by simp only[go_sem,c17L3b,ZG];rfl,by simp only[go_sem],by simp only[go_sem]⟩)
 rw[QE]at L;exact L
def Z4E(s:Sta)(hl:s.Nk.length<=1000):∃fr',Zg rE [1,8] c17L4b [(1,stI s),(8,.int .i64 0)] []=some (if s.Nk.all WU=true then .exit 8 else .ret,fr',[])/\(s.Nk.all WU=true->get fr' 1=stI s/\get fr' 2=.bot)/\(s.Nk.all WU=false->get fr' 2=.bool false):=by
 have L:=QT (E:=rE) (live:=[1,8]) (b:=c17L4b) (h:=[]) s.Nk (λ_ x=>WU x) (λi=>[(1,stI s),(8,I i)]) 8 (λfr=>get fr 1=stI s/\get fr 2=.bot) (λfr=>get fr 2=.bool false) (λi=>rfl)
  (λi x hx hP=>by
   have hg:=Z6 (f:=bc.enc) hx;have hi:=Zh<|Z7 hx;have hw:=Zx (n:=i) (by have:=Z7 hx;omega)
   have hS:=FP x.Id x.Gc x.Text;simp only[WU]at hP;have p0:=hP;rw[p0]at hS;refine⟨_,by simp only[go_sem,c17L4b,hg,hi,hw,bc.enc,hS];rfl,?_⟩
   simp only[go_sem])
  (λi x hx hP=>by
   have hg:=Z6 (f:=bc.enc) hx;have hi:=Zh<|Z7 hx;have hS:=FP x.Id x.Gc x.Text;unfold WU at hP;cases c0:[x.Id,x.Gc,x.Text].all ZU with
   |false=>
    rw[c0]at hS;refine⟨_,by simp only[go_sem,c17L4b,hg,hi,bc.enc,hS];rfl,?_⟩
    simp only[go_sem]
   |true=>
   rw[c0]at hS hP;cases hP)
  (⟨_,by simp only[go_sem,c17L4b,ZG];rfl,by simp only[go_sem],by simp only[go_sem]⟩)
 rw[QE]at L;exact L
def M3(s:Sta):Bool:=!decide ((s.Ga.length:Int)>8)&&(!decide ((s.Gr.length:Int)>8)&&(!decide ((s.By.length:Int)>8)&&(!decide ((s.Bc.length:Int)>16)&&(!decide ((s.Nk.length:Int)>10)&&(!decide ((s.Gk.length:Int)>10)&&!decide ((s.Wk.length:Int)>10))))))
def YQ(s:Sta):Bool:=M3 s&&(s.Ga.all WQ&&(s.Gr.all WR&&(s.By.all WS&&(s.Bc.all WT&&s.Nk.all WU))))
def Z4F(s:Sta):pfn rE 17 [stA s]=some (.bool<|YQ s):=by
 rw[Z5 (f:=17) rfl rfl];unfold YQ M3;cases d0:decide ((s.Ga.length:Int)>8)with
 |true=>simp only[go_sem,c17,d0]
 |false=>
 cases d1:decide ((s.Gr.length:Int)>8)with
 |true=>simp only[go_sem,c17,d0,d1]
 |false=>
 cases d2:decide ((s.By.length:Int)>8)with
 |true=>simp only[go_sem,c17,d0,d1,d2]
 |false=>
 cases d3:decide ((s.Bc.length:Int)>16)with
 |true=>simp only[go_sem,c17,d0,d1,d2,d3]
 |false=>
 cases d4:decide ((s.Nk.length:Int)>10)with
 |true=>simp only[go_sem,c17,d0,d1,d2,d3,d4]
 |false=>
 cases d5:decide ((s.Gk.length:Int)>10)with
 |true=>simp only[go_sem,c17,d0,d1,d2,d3,d4,d5]
 |false=>
 cases d6:decide ((s.Wk.length:Int)>10)with
 |true=>simp only[go_sem,c17,d0,d1,d2,d3,d4,d5,d6]
 |false=>
 obtain⟨f0,l0,a0,b0⟩:=Z4A s (by have:=of_decide_eq_false d0;omega)
 simp only[stI]at l0 a0;cases e0:s.Ga.all WQ with
 |false=>
  rw[e0]at l0;simp only[go_sem,c17,d0,d1,d2,d3,d4,d5,d6,c17L0,l0,b0 e0,ZWn]
 |true=>
 rw[e0]at l0;obtain⟨q0,r0⟩:=a0 e0;obtain⟨f1,l1,a1,b1⟩:=Z4B s (by have:=of_decide_eq_false d1;omega)
 simp only[stI]at l1 a1;cases e1:s.Gr.all WR with
 |false=>
  rw[e1]at l1;simp only[go_sem,c17,d0,d1,d2,d3,d4,d5,d6,c17L0,l0,q0,r0,c17L1,l1,b1 e1,ZWn]
 |true=>
 rw[e1]at l1;obtain⟨q1,r1⟩:=a1 e1;obtain⟨f2,l2,a2,b2⟩:=Z4C s (by have:=of_decide_eq_false d2;omega)
 simp only[stI]at l2 a2;cases e2:s.By.all WS with
 |false=>
  rw[e2]at l2;simp only[go_sem,c17,d0,d1,d2,d3,d4,d5,d6,c17L0,l0,q0,r0,c17L1,l1,q1,r1,c17L2,l2,b2 e2,ZWn]
 |true=>
 rw[e2]at l2;obtain⟨q2,r2⟩:=a2 e2;obtain⟨f3,l3,a3,b3⟩:=Z4D s (by have:=of_decide_eq_false d3;omega)
 simp only[stI]at l3 a3;cases e3:s.Bc.all WT with
 |false=>
  rw[e3]at l3;simp only[go_sem,c17,d0,d1,d2,d3,d4,d5,d6,c17L0,l0,q0,r0,c17L1,l1,q1,r1,c17L2,l2,q2,r2,c17L3,l3,b3 e3,ZWn]
 |true=>
 rw[e3]at l3;obtain⟨q3,r3⟩:=a3 e3;obtain⟨f4,l4,a4,b4⟩:=Z4E s (by have:=of_decide_eq_false d4;omega)
 simp only[stI]at l4 a4;cases e4:s.Nk.all WU with
 |false=>
  rw[e4]at l4;simp only[go_sem,c17,d0,d1,d2,d3,d4,d5,d6,c17L0,l0,q0,r0,c17L1,l1,q1,r1,c17L2,l2,q2,r2,c17L3,l3,q3,r3,c17L4,l4,b4 e4,ZWn]
 |true=>
 rw[e4]at l4;obtain⟨q4,r4⟩:=a4 e4;simp only[go_sem,c17,d0,d1,d2,d3,d4,d5,d6,c17L0,l0,q0,r0,c17L1,l1,q1,r1,c17L2,l2,q2,r2,c17L3,l3,q3,r3,c17L4,l4,r4,if_true]
structure StF(s:Sta):Prop where
 e:StE s
 regions:s.Ga.length<=500
 streets:s.Gr.length<=500
 buildings:s.By.length<=500
 doors:s.Bc.length<=500
 units:s.Nk.length<=500
 merged:s.Gk.length<=500
 rulings:s.Wk.length<=500
def Kl(s:Sta)(h:YQ s=true):StF s:=by
 simp only[YQ,M3,ZWe,ZWD]at h;obtain⟨⟨d0,d1,d2,d3,d4,d5,d6⟩,e0,e1,e2,e3,e4⟩:=h;have k0:=of_decide_eq_false d0;have k1:=of_decide_eq_false d1;have k2:=of_decide_eq_false d2;have k3:=of_decide_eq_false d3;have k4:=of_decide_eq_false d4;have k5:=of_decide_eq_false d5;have k6:=of_decide_eq_false d6;have hN:∀l:List Nm,XQ l=true->l.length<=100:=λl hl=>by
  simp only[XQ,ZWe]at hl;have:=of_decide_eq_true hl.2;omega
 rw[ZWw]at e0 e1 e2 e3 e4;refine⟨⟨⟨by omega,by omega,by omega,by omega,by omega,by omega,by omega⟩,λx hx=>?_,λx hx=>?_,λx hx=>?_,λx hx=>?_,λx hx=>?_⟩,by omega,by omega,by omega,by omega,by omega,by omega,by omega⟩
 .have:=e0 x hx;simp only[WQ,ZWe,ZWD]at this;obtain⟨p0,p1,p2⟩:=this;have p2':=of_decide_eq_false p2;simp[ZU]at p0;exact⟨hN _ p1,by omega,by omega⟩
 .have:=e1 x hx;simp only[WR,ZWe,ZWD]at this;obtain⟨p0,p1,p2⟩:=this;have p2':=of_decide_eq_false p2;simp[ZU]at p0;exact⟨hN _ p1,by omega,by omega⟩
 .have:=e2 x hx;simp only[WS,ZWe,ZWD]at this;obtain⟨p0,p2⟩:=this;have p2':=of_decide_eq_false p2;simp[ZU]at p0;exact⟨by omega,by omega⟩
 .have:=e3 x hx;simp only[WT,ZWe,ZWD]at this;obtain⟨p0,p1,p2⟩:=this;have p1':=of_decide_eq_false p1;simp[ZU]at p0;exact⟨by omega,by omega,by omega,by omega,by omega⟩
 .have:=e4 x hx;simp only[WU]at this;simp[ZU]at this;exact⟨by omega,by omega,by omega⟩
def Zpg(s:Sta)(p:Pt):List Int:=bif Jx s&&gOn p then ZoH s p else []
def Zph(s:Sta)(p:Pt):Int:=bif Jx s&&gOn p then 0 else 1
def ZqU(s:Sta)(hE:StE s)(p:Pt):pfn rE 6 [stA s,.agg [I p.X,I p.Y]]=some (.tup [.isl false false 1<|(Zpg s p).map I,I<|Zph s p]):=by
 have hO:=Zp7 s hE;have hG:=W8 p;have hcl:=Zow s;have hC:Z4 ((ZoH s p).map I)=true:=Zw (λt=>rfl) _
 unfold Zpg Zph;rw[Z5 (f:=6) rfl rfl];cases c:Jx s with
 |false=>
  rw[c]at hO;simp only[go_sem,c6,hO,ZWh,cond_false,ZWB]
 |true=>
 rw[c]at hO;cases c1:gOn p with
 |false=>
  rw[c1]at hG;simp only[go_sem,c6,hO,hG,ZWm,cond_false,ZWB]
 |true=>
 rw[c1]at hG;have hK:=ZpO s ⟨hE,c⟩ p;simp only[go_sem,c6,hO,hG,hK,ZWk,cond_true]
def ZqV(s:Sta)(e:Gt):pfn rE 5 [stA s,evA e]=some (.bool<|YQ s&&Xn e):=by
 have h1:=Z4F s;have h2:=Z4z e;rw[Z5 (f:=5) rfl rfl];cases c:YQ s with
 |false=>
  rw[c]at h1;simp only[go_sem,c5,h1,ZWh]
 |true=>
  rw[c]at h1;simp only[go_sem,c5,h1,h2,ZWf]
def ZpZ(l:List Int)(hl:l.length<=100000):pfn rE 10 [.isl false false 1<|l.map I,.isl false false 1<|l.map I]=some (.bool true):=by
 have L:=Y8 (E:=rE) (live:=[0,1,5]) (b:=c10L0b) l.length (λi=>[(0,.isl false false 1<|l.map I),(1,.isl false false 1<|l.map I),(5,I i)]) (λ_=>[]) (λi=>rfl)
  (λi hi=>by
   obtain⟨x,hx⟩:∃x,l[i]?=some x:=⟨_,ZWq hi⟩;have hg:=Z6 (f:=I) hx;have hi':=Zh hi;have hwr:=Zx (n:=i)<|by omega
   have hn:(x != x)=false:=by simp
   refine⟨_,by simp only[go_sem,c10L0b,hg,hi',hwr,hn];rfl,?_⟩
   simp only[go_sem])
  (e:=.exit 0) (by simp only[go_sem,c10L0b,ZG];rfl) (by simp)
 have L':Zg rE [0,1,5] c10L0b [(0,.isl false false 1<|l.map I),(1,.isl false false 1<|l.map I),(5,.int .i64 0)] []=_:=L;have hn:((l.length:Int) != (l.length:Int))=false:=by simp
 rw[Z5 (f:=10) rfl rfl];simp only[go_sem,c10,c10L0,hn,L']
def Zuv(p:Pt)(x:Gm):Bool:=ZoG x&&decide (ZoY x.Ring.l p>=0)
def ZuF(K:List Int)(x z:Int):z∈Qi Vm K x↔z∈K\/z=x:=by
 unfold Qi;cases c:K.any (Vm x)with
 |true=>
  obtain⟨y,hy,he⟩:=ZYl.1 c;have:x=y:=eq_of_beq he;subst this;exact⟨Or.inl,λh=>h.elim id<|λh=>h▸hy⟩
 |false=>rw[cond_false,ZX3,ZX2]
def ZuG{K:List Int}(x:Int)(h:K.Nodup):(Qi Vm K x).Nodup:=by
 unfold Qi;cases c:K.any (Vm x)with
 |true=>exact h
 |false=>
  rw[cond_false,ZXQ];refine⟨h,by simp,λa ha b hb hc=>?_⟩
  rw[ZX2]at hb;subst hb;subst hc;have:=ZZ3.1 c a ha;unfold Vm at this;simp at this
def ZuB(s:Sta)(p:Pt)(z:Int):∀(l:List Gm)(K:List Int),z∈l.foldl (ZoF s p) K↔z∈K\/∃x∈l,Zuv p x=true/\Zoq s x.bg=z
 |[],K=>by simp
 |x::r,K=>by
  rw[ZXb,ZuB s p z r];have h:z∈ZoF s p K x↔z∈K\/(Zuv p x=true/\Zoq s x.bg=z):=by
   unfold ZoF Zuv;cases ZoG x&&decide (ZoY x.Ring.l p>=0)with
   |false=>simp
   |true=>
    rw[cond_true,ZuF];simp[eq_comm]
  rw[h];simp only[ZWF];constructor
  .rintro((h|h)|⟨y,h1,h2⟩)
   .exact Or.inl h
   .exact Or.inr ⟨x,Or.inl rfl,h⟩
   .exact Or.inr ⟨y,Or.inr h1,h2⟩
  .rintro(h|⟨y,rfl|h1,h2⟩)
   .exact Or.inl<|Or.inl h
   .exact Or.inl<|Or.inr h2
   .exact Or.inr ⟨y,h1,h2⟩
def ZuC(s:Sta)(p:Pt):∀(l:List Gm)(K:List Int),K.Nodup->(l.foldl (ZoF s p) K).Nodup
 |[],_,h=>h
 |x::r,K,h=>by
  rw[ZXb];refine ZuC s p r _ ?_;unfold ZoF;cases ZoG x&&decide (ZoY x.Ring.l p>=0)with
  |false=>exact h
  |true=>exact ZuG _ h
def Zuy(s:Sta)(p:Pt)(z:Int):z∈ZoH s p↔∃x∈s.Ga,Zuv p x=true/\Zoq s x.bg=z:=by
 unfold ZoH Zoy;rw[(Zp3 _).mem_iff,ZuB];simp
def ZuH(s:Sta)(p:Pt):(ZoH s p).Pairwise (λa b=>a<b):=by
 have h1:=Zpt<|Zoy s p;have h2:(Zox<|Zoy s p).Nodup:=(Zp3 _).nodup_iff.2 (ZuC s p s.Ga [] .nil);have:=h1.and h2;refine this.imp<|λ{a b}h=>?_
 have h3:a<=b:=by
  have:=h.1;unfold leI at this;exact of_decide_eq_true this
 have h4:a≠b:=h.2;omega
def ZSY(l:List Pt)(ex:Bool)(hl:l.length<=1000000):pfn rE 78 [.isl false ex 2<|l.map Pt.enc]=some (.bool<|Ul l):=by
 have L:=QT (E:=rE) (live:=[0,3]) (b:=c78L0b) (h:=[]) l (VX l) (λi=>[(0,.isl false ex 2<|l.map Pt.enc),(3,I i)]) 0 (λ_=>True) (λfr=>get fr 2=.bool false) (λi=>rfl)
  (λi x hx hP=>by
   have hg:=Z6 (f:=Pt.enc) hx;have hi:=Zh<|Z7 hx;have hw:=Zx (n:=i) (by have:=Z7 hx;omega)
   have hP1:gOn x=true:=by simp only[VX,ZWe]at hP;exact hP.1
   rcases i with _|j
   .have h0:decide (((0:Nat):Int)>0)=false:=rfl;refine⟨_,by simp only[go_sem,c78L0b,hg,hi,hw,Pt.enc,ZO4,hP1,h0,ZWd,ZWg];rfl,?_⟩
    simp only[go_sem]
   .have h0:decide (((j+1:Nat):Int)>0)=true:=decide_eq_true (by omega)
    have hs:IntKind.i64.wrap (((j+1:Nat):Int)-1)=((j:Nat):Int):=by rw[YM (by omega) (by have:=Z7 hx;omega)];omega
    have hg1:=YN (l:=l) (i:=j) (by have:=Z7 hx;omega)
    have hP2:(x.X==(pAt l j).X&&x.Y==(pAt l j).Y)=false:=by
     have:VX l (j+1) x=(gOn x&&!(decide (((j+1:Nat):Int)>0)&&QK x (pAt l j))):=rfl;rw[this,hP1,h0]at hP;simp only[ZWf,ZWD]at hP;exact hP
    refine⟨_,by simp only[go_sem,c78L0b,hg,hg1,hi,hw,hs,Pt.enc,ZO4,hP1,h0,hP2,ZWd,ZWg];rfl,?_⟩
    simp only[go_sem])
  (λi x hx hP=>by
   have hg:=Z6 (f:=Pt.enc) hx;have hi:=Zh<|Z7 hx;cases hP1:gOn x with
   |false=>
    refine⟨_,by simp only[go_sem,c78L0b,hg,hi,Pt.enc,ZO4,hP1,ZWd,ZWi];rfl,?_⟩
    simp only[go_sem]
   |true=>
    rcases i with _|j
    .simp[VX,hP1]at hP
    .have h0:decide (((j+1:Nat):Int)>0)=true:=decide_eq_true (by omega)
     have hs:IntKind.i64.wrap (((j+1:Nat):Int)-1)=((j:Nat):Int):=by rw[YM (by omega) (by have:=Z7 hx;omega)];omega
     have hg1:=YN (l:=l) (i:=j) (by have:=Z7 hx;omega)
     have hP2:(x.X==(pAt l j).X&&x.Y==(pAt l j).Y)=true:=by
      have:VX l (j+1) x=(gOn x&&!(decide (((j+1:Nat):Int)>0)&&QK x (pAt l j))):=rfl;rw[this,hP1,h0]at hP;simp only[ZWf,ZXO]at hP;exact hP
     refine⟨_,by simp only[go_sem,c78L0b,hg,hg1,hi,hs,Pt.enc,ZO4,hP1,h0,hP2,ZWd,ZWg];rfl,?_⟩
     simp only[go_sem])
  (⟨_,by simp only[go_sem,c78L0b,ZG,ZWd];rfl,trivial⟩)
 obtain⟨fr',h1,h2,h3⟩:=L;have h1':Zg rE [0,3] c78L0b [(0,.isl false ex 2<|l.map Pt.enc),(3,.int .i64 0)] []=_:=h1;rw[Z5 (f:=78) rfl rfl];unfold Ul;have e3:decide ((l.length:Int)>=2) = !decide ((l.length:Int)<2):=by rw[ZWI];simp
 have e4:decide ((l.length:Int)<=40) = !decide ((l.length:Int)>40):=by rw[ZWI];simp
 rw[e3,e4];cases c1:decide ((l.length:Int)<2)with
 |true=>simp only[go_sem,c78,c1,ZWd,ZWg,ZWh,ZWm]
 |false=>
  cases c2:decide ((l.length:Int)>40)with
  |true=>simp only[go_sem,c78,c1,c2,ZWd,ZWg,ZWi,ZWm]
  |false=>
   cases hc:Zu (VX l) 0 l with
   |true=>rw[hc]at h1';simp only[go_sem,c78,c78L0,h1',c1,c2,ZWd,ZWi,ZWk]
   |false=>rw[hc]at h1';simp only[go_sem,c78,c78L0,h1',h3 hc,c1,c2,ZWd,ZWi,ZWk,ZWn]
def nb0(n:Nat):(((n:Nat):Int)==0)=(n==0):=by rw[ZWI,beq_iff_eq,beq_iff_eq];omega
def cmN(a b:Nat)(d:Nat):Bool:=!(a%d==0&&b%d==0)
def cmT(a b:Nat):Bool:=!(List.range' 2<|a-1).all (cmN a b)
def ZSZ(a b:Nat)(ha:1<=a)(ha2:a<=9)(hb:b<=9):pfn rE 151 [I a,I b]=some (.bool<|cmT a b):=by
 have L:=Uf (E:=rE) (live:=[0,1,5]) (b:=c151L0b) (h:=[]) (List.range' 2<|a-1) (λ_ d=>cmN a b d) (λj=>[(0,I a),(1,I b),(5,I (2+j:Nat))]) 0 (λfr=>get fr 4=.bool true) (λi=>rfl)
  (λj d hd hP=>by
   obtain⟨rfl,hj⟩:=Dt hd;have hle:decide (((2+j:Nat):Int)<=(a:Int))=true:=decide_eq_true<|by omega
   have hn:=nat_ne (n:=2+j)<|by omega
   have hw:=Zx (n:=2+j)<|by omega
   have ea:2+(j+1)=2+j+1:=by omega
   rw[ea];unfold cmN at hP;have e1:(((a%(2+j):Nat):Int)==0)=(a%(2+j)==0):=nb0 _;have e2:(((b%(2+j):Nat):Int)==0)=(b%(2+j)==0):=nb0 _;rw[<-e1,<-e2]at hP;generalize 2+j=k at*;cases c1:(((a%k:Nat):Int)==0)with
   |false=>
    refine⟨_,by simp only[go_sem,c151L0b,hle,hn,hw,Jc,c1];rfl,?_⟩
    simp only[go_sem]
   |true=>
    rw[c1,ZWf,ZWD]at hP;refine⟨_,by simp only[go_sem,c151L0b,hle,hn,hw,Jc,c1,hP];rfl,?_⟩
    simp only[go_sem])
  (λj d hd hP=>by
   obtain⟨rfl,hj⟩:=Dt hd;have hle:decide (((2+j:Nat):Int)<=(a:Int))=true:=decide_eq_true<|by omega
   have hn:=nat_ne (n:=2+j)<|by omega
   unfold cmN at hP;have e1:(((a%(2+j):Nat):Int)==0)=(a%(2+j)==0):=nb0 _;have e2:(((b%(2+j):Nat):Int)==0)=(b%(2+j)==0):=nb0 _;rw[<-e1,<-e2]at hP;generalize 2+j=k at*;rw[ZXO,ZWe]at hP;refine⟨_,by simp only[go_sem,c151L0b,hle,hn,Jc,hP.1,hP.2];rfl,?_⟩
   simp only[go_sem])
  (by
   have hle:decide (((2+(List.range' 2<|a-1).length:Nat):Int)<=(a:Int))=false:=by simp;omega
   generalize 2+(List.range' 2<|a-1).length=k at*;exact⟨_,by simp only[go_sem,c151L0b,hle];rfl⟩)
 rw[QE]at L;obtain⟨fr',h1,h2⟩:=L;have h1':Zg rE [0,1,5] c151L0b [(0,I a),(1,I b),(5,.int .i64 2)] []=_:=h1;rw[Z5 (f:=151) rfl rfl];unfold cmT;cases hc:(List.range' 2<|a-1).all (cmN a b)with
 |true=>rw[hc]at h1';simp only[go_sem,c151,c151L0,h1',ZWg]
 |false=>rw[hc]at h1';simp only[go_sem,c151,c151L0,h1',h2 hc,ZWi,ZWn]
def rFr(a b:Int):Bool:=bif (a==0&&b==0)then true else decide (a>=1)&&(decide (a<b)&&(decide (b<=9)&&!cmT a.toNat b.toNat))
def ZT0{a b:Int}(h:decide (Nl a b>=0)=true):∃x∈Vi,x.a=a/\x.b=b:=by
 unfold Nl at h;rcases UA (λp:be=>p.a==a&&p.b==b) Vi 0 with⟨h1,_⟩|⟨j,x,_,h2,h3⟩
 .rw[h1]at h;cases h
 .have h4:=ZYb h3;rw[ZWe]at h4;exact⟨x,ZXW h3,eq_of_beq h4.1,eq_of_beq h4.2⟩
def ZT1:∀x∈Vi,0<=x.a/\x.a<=9/\0<=x.b/\x.b<=9:=by decide
def ZT2:∀a b:Fin 10,rFr ((a.val:Nat):Int) ((b.val:Nat):Int)=decide (Nl ((a.val:Nat):Int) ((b.val:Nat):Int)>=0):=by decide +kernel
def ZT3(a b:Int):rFr a b=decide (Nl a b>=0):=by
 by_cases h:0<=a/\a<=9/\0<=b/\b<=9
 .have:=ZT2 ⟨a.toNat,by omega⟩ ⟨b.toNat,by omega⟩
  dsimp only at this
  rwa[ZYN h.1,ZYN h.2.2.1]at this
 .have h1:decide (Nl a b>=0)=false:=by
   cases c:decide (Nl a b>=0)with
   |false=>rfl
   |true=>
    obtain⟨x,h1,rfl,rfl⟩:=ZT0 c;have:=ZT1 x h1;omega
  rw[h1];unfold rFr;cases c0:(a==0&&b==0)with
  |true=>
   rw[ZWe,beq_iff_eq,beq_iff_eq]at c0;omega
  |false=>
   rw[cond_false];cases c1:decide (a>=1)with
   |false=>rfl
   |true=>
    cases c2:decide (a<b)with
    |false=>rfl
    |true=>
     cases c5003:decide (b<=9)with
     |false=>rfl
     |true=>
      have:=of_decide_eq_true c1;have:=of_decide_eq_true c2;have:=of_decide_eq_true c5003;omega
def ZQj(s:Str):Bool:=!(decide ((s.size:Int)>1)||(!Z3 s emp&&(WW s (B [97])||!(WW s (B [122])||Z3 s (B [122])))))
def ZT4(s:Str):ZQj s=letterT s:=by
 obtain⟨⟨l⟩⟩:=s;unfold ZQj letterT;rcases l with _|⟨b,_|⟨c,r⟩⟩
 .rfl
 .have h1:(ByteArray.size ⟨⟨[b]⟩⟩:Nat)=1:=rfl;have h2:Z3 ⟨⟨[b]⟩⟩ emp=false:=by
   rw[ZXD];intro h;have:=(Ky _ _).1 h;cases this
  have h3:Vj ⟨⟨[b]⟩⟩ 0=(b.toNat:Int):=rfl;have h4:WW ⟨⟨[b]⟩⟩ (B [97])=decide (b<97):=by
   show(decide (b<97)||(b==97&&false))=_
   rw[ZWm,ZWp]
  have h5:(WW ⟨⟨[b]⟩⟩ (B [122])||Z3 ⟨⟨[b]⟩⟩ (B [122]))=decide (b<=122):=by
   have e1:WW ⟨⟨[b]⟩⟩ (B [122])=decide (b<122):=by
    show(decide (b<122)||(b==122&&false))=_
    rw[ZWm,ZWp]
   have e2:Z3 ⟨⟨[b]⟩⟩ (B [122])=(b==122):=by
    rw[ZWI,Ky,beq_iff_eq];constructor
    .intro h;have:([b]:List UInt8)=[122]:=congrArg (λs:Str=>s.data.toList) h
     exact(List.cons.inj this).1
    .rintro rfl;rfl
   rw[e1,e2,ZWI];simp only[ZXr,decide_eq_true_eq,beq_iff_eq];rw[UInt8.lt_iff_toNat_lt,UInt8.le_iff_toNat_le,<-UInt8.toNat_inj];have:(122:UInt8).toNat=122:=rfl;omega
  rw[h1,h2,h3,h4,h5];rw[ZWI];have e97:(97:UInt8).toNat=97:=rfl;have e122:(122:UInt8).toNat=122:=rfl;simp[UInt8.lt_iff_toNat_lt,UInt8.le_iff_toNat_le,e97,e122]
  try omega
 .have h1:(ByteArray.size ⟨⟨b::c::r⟩⟩:Nat)=r.length+2:=rfl;have h2:Z3 ⟨⟨b::c::r⟩⟩ emp=false:=by
   rw[ZXD];intro h;have:=(Ky _ _).1 h;cases this
  rw[h1,h2,decide_eq_true<|by omega]
  have h3:(((r.length+2:Nat):Int)==1)=false:=by rw[beq_eq_false_iff_ne];omega
  rw[h3];rfl
def ZRz{a b:Int}(h1:a>=1)(h2:a<b)(h3:b<=9):pfn rE 151 [I a,I b]=some (.bool<|cmT a.toNat b.toNat):=by
 have:=ZSZ a.toNat b.toNat (by omega) (by omega)<|by omega
 rwa[ZYN (by omega),ZYN<|by omega]at this
def ZPS(n:HN):pfn rE 81 [.agg [I n.N,.str n.bk,I n.Num,I n.Den]]=some (.bool<|YO n):=by
 unfold YO;rw[<-ZT4,<-ZT3];unfold ZQj rFr;have e1:decide (n.N>=1) = !decide (n.N<1):=by rw[ZWI];simp
 have e2:decide (n.N<=9999) = !decide (n.N>9999):=by rw[ZWI];simp
 rw[e1,e2,Z5 (f:=81) rfl rfl];cases c1:decide (n.N<1)with
 |true=>simp only[go_sem,c81,c1,ZWg,ZWh]
 |false=>
  cases c2:decide (n.N>9999)with
  |true=>simp only[go_sem,c81,c1,c2,ZWg,ZWi,ZWh,ZWf]
  |false=>
   cases c5003:decide ((n.bk.size:Int)>1)with
   |true=>simp only[go_sem,c81,c1,c2,c5003,ZWg,ZWi,ZWh,ZWf,ZWj]
   |false=>
    cases c5004:Z3 n.bk emp with
    |true=>
     cases c5007:(n.Num==0&&n.Den==0)with
     |true=>
      rw[ZWe]at c5007;simp only[go_sem,c81,c1,c2,c5003,c5004,c5007.1,c5007.2,ZWg,ZWi,ZWh,ZWf,ZWj,ZWl,ZWp,ZWm]
     |false=>
      have c7':=c5007;cases d1:n.Num==0<;>rw[d1]at c7'<;>(try simp only[ZWf]at c7')
      .cases c45:decide (n.Num>=1)with
       |false=>simp only[go_sem,c81,c1,c2,c5003,c5004,d1,c45,ZWg,ZWi,ZWh,ZWf,ZWj,ZWl,ZWp,ZWm]
       |true=>
        cases c22:decide (n.Num<n.Den)with
        |false=>simp only[go_sem,c81,c1,c2,c5003,c5004,d1,c45,c22,ZWg,ZWi,ZWh,ZWf,ZWj,ZWl,ZWp,ZWm]
        |true=>
         cases c5011:decide (n.Den<=9)with
         |false=>simp only[go_sem,c81,c1,c2,c5003,c5004,d1,c45,c22,c5011,ZWg,ZWi,ZWh,ZWf,ZWj,ZWl,ZWp,ZWm]
         |true=>
          have hcm:=ZRz (of_decide_eq_true c45) (of_decide_eq_true c22)<|of_decide_eq_true c5011;simp only[go_sem,c81,c1,c2,c5003,c5004,d1,c45,c22,c5011,hcm,ZWg,ZWi,ZWh,ZWf,ZWj,ZWl,ZWp,ZWm]
      .have z1:decide (n.Num>=1)=false:=decide_eq_false (by have:=eq_of_beq d1;omega)
       simp only[go_sem,c81,c1,c2,c5003,c5004,d1,c7',z1,ZWg,ZWi,ZWh,ZWf,ZWj,ZWl,ZWp,ZWm]
    |false=>
     cases c5005:WW n.bk (B [97])with
     |true=>simp only[go_sem,c81,c1,c2,c5003,c5004,c5005,ZWg,ZWi,ZWh,ZWf,ZWj,ZWl,ZWp,ZWm]
     |false=>
      cases c5006:WW n.bk (B [122])||Z3 n.bk (B [122])with
      |false=>simp only[go_sem,c81,c1,c2,c5003,c5004,c5005,c5006,ZWg,ZWi,ZWh,ZWf,ZWj,ZWl,ZWp,ZWm]
      |true=>
       cases c5007:(n.Num==0&&n.Den==0)with
       |true=>
        rw[ZWe]at c5007;simp only[go_sem,c81,c1,c2,c5003,c5004,c5005,c5006,c5007.1,c5007.2,ZWg,ZWi,ZWh,ZWf,ZWj,ZWl,ZWp,ZWm]
       |false=>
        have c7':=c5007;cases d1:n.Num==0<;>rw[d1]at c7'<;>(try simp only[ZWf]at c7')
        .cases c45:decide (n.Num>=1)with
         |false=>simp only[go_sem,c81,c1,c2,c5003,c5004,c5005,c5006,d1,c45,ZWg,ZWi,ZWh,ZWf,ZWj,ZWl,ZWp,ZWm]
         |true=>
          cases c22:decide (n.Num<n.Den)with
          |false=>simp only[go_sem,c81,c1,c2,c5003,c5004,c5005,c5006,d1,c45,c22,ZWg,ZWi,ZWh,ZWf,ZWj,ZWl,ZWp,ZWm]
          |true=>
           cases c5011:decide (n.Den<=9)with
           |false=>simp only[go_sem,c81,c1,c2,c5003,c5004,c5005,c5006,d1,c45,c22,c5011,ZWg,ZWi,ZWh,ZWf,ZWj,ZWl,ZWp,ZWm]
           |true=>
            have hcm:=ZRz (of_decide_eq_true c45) (of_decide_eq_true c22)<|of_decide_eq_true c5011;simp only[go_sem,c81,c1,c2,c5003,c5004,c5005,c5006,d1,c45,c22,c5011,hcm,ZWg,ZWi,ZWh,ZWf,ZWj,ZWl,ZWp,ZWm]
        .have z1:decide (n.Num>=1)=false:=decide_eq_false (by have:=eq_of_beq d1;omega)
         simp only[go_sem,c81,c1,c2,c5003,c5004,c5005,c5006,d1,c7',z1,ZWg,ZWi,ZWh,ZWf,ZWj,ZWl,ZWp,ZWm]
def ltI(x:Int):Bool:=(decide (x>=97)&&decide (x<=122))||(decide (x>=65)&&decide (x<=90))
def dgI(x:Int):Bool:=decide (x>=48)&&decide (x<=57)
def wdI(x:Int):Bool:=ltI x||(dgI x||x==95)
def ZRA(x:Int):pfn rE 144 [.int .u8 x]=some (.bool<|ltI x):=by
 rw[Z5 (f:=144) rfl rfl];unfold ltI;cases h1:decide (x>=97)<;>cases h2:decide (x<=122)<;>cases h3:decide (x>=65)<;>simp only[go_sem,c144,h1,h2,h3,ZWk,ZWm,ZWf,ZWh,ZWt,ZWp,ZWj,ZWl]
def ZT5(x:Int):pfn rE 183 [.int .u8 x]=some (.bool<|dgI x):=by
 rw[Z5 (f:=183) rfl rfl];unfold dgI;cases h1:decide (x>=48)<;>simp only[go_sem,c183,h1,ZWf,ZWh]
def ZRB(x:Int):pfn rE 143 [.int .u8 x]=some (.bool<|wdI x):=by
 rw[Z5 (f:=143) rfl rfl];unfold wdI;cases h1:ltI x<;>cases h2:dgI x<;>simp only[go_sem,c143,ZRA,ZT5,h1,h2,ZWj,ZWl]
def wdB(b:UInt8):Bool:=wdI b.toNat
def ZOW(s:Str):Bool:=s.data.toList.all wdB&&(decide (0<s.size)&&(decide ((s.size:Int)<=24)&&ltI (Xc s 0)))
def ZPa{s:Str}{i:Nat}{b:UInt8}(h:s.data.toList[i]?=some b):s.data[i]?=some b/\i<s.size:=by
 constructor
 .simpa using h
 .have:=Z7 h;have e:s.data.toList.length=s.size:=ZX6;omega
def ZOL(s:Str):s.data.toList.length=s.size:=ZX6
def ZT6(s:Str)(hs:s.size<=1000000):pfn rE 76 [.str s]=some (.bool<|ZOW s):=by
 have L:=QT (E:=rE) (live:=[0,3]) (b:=c76L0b) (h:=[]) s.data.toList (λ_ x=>wdB x) (λi=>[(0,.str s),(3,I i)]) 0 (λfr=>get fr 0=.str s) (λfr=>get fr 2=.bool false) (λi=>rfl)
  (λi x hx hP=>by
   obtain⟨hg,hi0⟩:=ZPa hx;have hi:=Zh hi0;have hw:=Zx (n:=i)<|by omega
   have hn:((i:Int)).toNat=i:=rfl;have hi0':(0<=(i:Int))=True:=by simp
   have hP':wdI x.toNat=true:=hP;refine⟨_,by simp only[go_sem,c76L0b,hi,hw,hn,hg,hi0',ZRB,hP',if_true,ZWH,ZWg];rfl,?_⟩
   simp only[go_sem])
  (λi x hx hP=>by
   obtain⟨hg,hi0⟩:=ZPa hx;have hi:=Zh hi0;have hn:((i:Int)).toNat=i:=rfl;have hi0':(0<=(i:Int))=True:=by simp
   have hP':wdI x.toNat=false:=hP;refine⟨_,by simp only[go_sem,c76L0b,hi,hn,hg,hi0',ZRB,hP',if_true,ZWH,ZWi];rfl,?_⟩
   simp only[go_sem])
  (by
   rw[ZOL];exact⟨_,by simp only[go_sem,c76L0b,ZG];rfl,by simp only[go_sem]⟩)
 rw[QE]at L;obtain⟨fr',h1,h3,h2⟩:=L;have h1':Zg rE [0,3] c76L0b [(0,.str s),(3,.int .i64 0)] []=_:=h1;rw[Z5 (f:=76) rfl rfl];unfold ZOW;have e0:decide ((s.size:Int)>0)=decide (0<s.size):=by rw[decide_eq_decide];omega
 cases hc:s.data.toList.all wdB with
 |false=>rw[hc]at h1';simp only[go_sem,c76,c76L0,h1',h2 hc,ZWh,ZWn]
 |true=>
  rw[hc]at h1';have h3:=h3 hc;cases c1:decide (0<s.size)with
  |false=>simp only[go_sem,c76,c76L0,h1',h3,e0,c1,ZWh,ZWf]
  |true=>
   have hp:=of_decide_eq_true c1;have hg:=DQ (s:=s) (i:=0) hp;have ez:(0:Int).toNat=0:=rfl;cases c2:decide ((s.size:Int)<=24)with
   |false=>simp only[go_sem,c76,c76L0,h1',h3,e0,c1,c2,ZWh,ZWf]
   |true=>simp only[go_sem,c76,c76L0,h1',h3,e0,c1,c2,hg,ez,ZRA,Xc,ZWf,Int.le_refl,if_true,ZWH]
def ZT7:∀k:Fin 256,[3,4,5].any (λx=>K1 k.val==x)=wdI k.val:=by decide +kernel
def ZT8:∀k:Fin 256,(K1 k.val==3)=ltI k.val:=by decide +kernel
def ZRC{s:Str}{i:Nat}(h:i<s.size):atT s i=K1 (Xc s i):=by
 unfold atT;have:decide ((i:Int)>=(s.size:Int))=false:=decide_eq_false<|by omega
 rw[this,cond_false]
def ZRD{s:Str}{i:Nat}(h:i<s.size):[3,4,5].any (λx=>atT s i==x)=wdI (Xc s i):=by
 rw[ZRC h];exact ZT7 ⟨Xc s i,DP s i⟩
def ZRE{s:Str}{i:Nat}(h:i<s.size):(atT s i==3)=ltI (Xc s i):=by
 rw[ZRC h];exact ZT8 ⟨Xc s i,DP s i⟩
def ZRF(s:Str)(cs:List Int):∀k i j,i<=j->j<Xd s cs k i->cs.any (λx=>atT s j==x)=true
 |0,i,j,h1,h2=>by rw[Xd]at h2;omega
 |k+1,i,j,h1,h2=>by
  rw[Xd]at h2;cases c:decide ((i:Int)<(s.size:Int))&&cs.any (λx=>atT s i==x)with
  |false=>rw[c,cond_false]at h2;omega
  |true=>
   rw[c,cond_true]at h2;by_cases e:i=j
   .subst e;rw[ZWe]at c;exact c.2
   .exact ZRF s cs k (i+1) j (by omega) h2
def ZRG(s:Str)(cs:List Int)(h:∀j,j<s.size->cs.any (λx=>atT s j==x)=true):∀k i,i+k=s.size->Xd s cs k i=s.size
 |0,i,e=>by rw[Xd];omega
 |k+1,i,e=>by
  rw[Xd,h i (by omega),decide_eq_true (by omega),ZWf,cond_true]
  exact ZRG s cs h k (i+1)<|by omega
def ZRH(s:Str):∀k i out,(Xf s k i out).toks=[]\/∃r,(Xf s k i out).toks=out++r
 |0,i,out=>Or.inl rfl
 |k+1,i,out=>by
  unfold Xf;cases decide ((i:Int)<(s.size:Int))with
  |false=>exact Or.inr ⟨[],by simp⟩
  |true=>
   rw[cond_true];cases ND (We s i) out != 0 with
   |true=>exact Or.inl rfl
   |false=>
    rw[cond_false];rcases ZRH s k (YP s (We s i).stop.toNat) (out++[(We s i).tok])with h|⟨r,h⟩
    .exact Or.inl h
    .exact Or.inr ⟨(We s i).tok::r,by rw[h];simp⟩
def ZT9{s:Str}{i:Nat}(h:(We s i).tok.bp=1):(atT s i==3)=true/\(We s i).tok.Text=ZX s i (ZI s [3,4,5] i)/\decide (W ((ZI s [3,4,5] i:Int)-(i:Int))>24)=false:=by
 unfold We at h⊢;generalize(atT s i==3)=a1 at h⊢;generalize(atT s i==4)=a2 at h⊢;generalize(atT s i==6)=a3 at h⊢;generalize(atT s i==7)=a4 at h⊢;generalize(atT s i==8)=a5 at h⊢;generalize(atT s i==9)=a6 at h⊢;generalize H4 s i=a7 at h⊢;generalize decide (quN s i>400)=a8 at h⊢;generalize Xe (ZX s (i+1) s.size) (B [61])=a9 at h⊢;generalize(decide (W ((ZI s [4] i:Int)-(i:Int))>13)||(atT s (ZI s [4] i)==3||atT s (ZI s [4] i)==5))=b1 at h⊢;generalize decide (W ((ZI s [3,4,5] i:Int)-(i:Int))>24)=b2 at h⊢;cases a1 with
 |true=>
  cases b2 with
  |true=>(simp only[cond_true,cond_false,ZWp,ZWt,Yw]at h;omega)
  |false=>exact⟨rfl,rfl,rfl⟩
 |false=>
  cases a2 with
  |true=>cases b1<;>(simp only[cond_true,cond_false,ZWp,ZWt,Yw]at h;omega)
  |false=>
   cases a3 with
   |true=>cases a7<;>cases a8<;>(simp only[cond_true,cond_false,ZWp,ZWt,Yw]at h;omega)
   |false=>
    cases a4<;>cases a5<;>cases a9<;>cases a6<;>(simp only[cond_true,cond_false,ZWp,ZWt,Yw]at h;omega)
def ZTa{s:Str}(h:ZZ s=true):s.size<=20000:=by
 unfold ZZ at h;rw[ZWe]at h;unfold Up at h;cases hd:decide ((s.size:Int)>20000)with
 |true=>rw[hd]at h;simp at h
 |false=>have:=of_decide_eq_false hd;omega
def ZTb{s:Str}(h:ZZ s=true):∃i,(We s i).tok.bp=1/\(We s i).tok.Text=s/\i<s.size:=by
 unfold ZZ at h;rw[ZWe]at h;obtain⟨h1,h2⟩:=h;unfold Up at h1 h2;cases hd:decide ((s.size:Int)>20000)with
 |true=>rw[hd]at h1;simp at h1
 |false=>
  rw[hd,cond_false]at h1 h2;refine⟨YP s 0,?_⟩;unfold Xf at h2;cases hi:decide (((YP s 0:Nat):Int)<(s.size:Int))with
  |false=>rw[hi]at h2;simp at h2
  |true=>
   rw[hi,cond_true]at h2;cases he:ND (We s<|YP s 0) [] != 0 with
   |true=>rw[he]at h2;simp at h2
   |false=>
    rw[he,cond_false]at h2;rcases ZRH s s.size (YP s (We s<|YP s 0).stop.toNat) ([]++[(We s<|YP s 0).tok])with k|⟨r,k⟩
    .rw[k]at h2;simp at h2
    .rw[k]at h2;cases r with
     |cons a r=>simp at h2
     |nil=>
      simp only[ZWQ,ZWG,ZWe]at h2;have hlt:=of_decide_eq_true hi;exact⟨eq_of_beq h2.1,(Ky _ _).1 h2.2,by omega⟩
def ZTc{s:Str}(h:ZZ s=true):ZOW s=true:=by
 obtain⟨i,h1,h2,hi⟩:=ZTb h;obtain⟨h0,h3,h4⟩:=ZT9 h1;have hz:=ZTa h;have hle:=K3 s [3,4,5] (i:=i)<|by omega
 have hge:=K2 s [3,4,5] i;have hsz:(ZX s i<|ZI s [3,4,5] i).size=ZI s [3,4,5] i-i:=by rw[ByteArray.size_extract];omega
 have he:ZI s [3,4,5] i-i=s.size:=by rw[<-hsz,<-h3,h2]
 have hi0:i=0:=by omega
 subst hi0;have hW:W ((ZI s [3,4,5] 0:Int)-((0:Nat):Int))=(ZI s [3,4,5] 0:Int)-((0:Nat):Int):=YM (by omega)<|by omega
 rw[hW]at h4;have h4':=of_decide_eq_false h4;unfold ZOW;rw[ZWe,ZWe,ZWe];refine⟨?_,decide_eq_true hi,decide_eq_true (by omega),by rw[<-ZRE hi];exact h0⟩
 rw[ZWw];intro b hb;obtain⟨m,hm⟩:=ZXL.1 hb;obtain⟨hg,hml⟩:=ZPa hm;have hin:=ZRF s [3,4,5] (s.size-0) 0 m (by omega)<|by unfold ZI at he;omega
 rw[ZRD hml]at hin;have e:Xc s m=b.toNat:=by unfold Xc;rw[ZX5,hg];rfl
 rw[e]at hin;exact hin
def ZTd(s:Str):YP s s.size=s.size:=by
 unfold YP;have e:ZI s [1] s.size=s.size:=by unfold ZI;rw[Nat.sub_self,Xd]
 rw[e];unfold K4;have:atT s s.size=0:=by unfold atT;rw[decide_eq_true (by omega),cond_true]
 rw[this];rfl
def ZTe{s:Str}(h:ZOW s=true):ZZ s=true:=by
 unfold ZOW at h;rw[ZWe,ZWe,ZWe]at h;obtain⟨h1,h2,h3,h4⟩:=h;have hp:=of_decide_eq_true h2;have h24:=of_decide_eq_true h3;have hall:∀j,j<s.size->[3,4,5].any (λx=>atT s j==x)=true:=λj hj=>by
  rw[ZRD hj];have hg:=DQ hj;have hm:s.data.getD j 0∈s.data.toList:=by
   rw[ZXL];exact⟨j,by simpa using hg⟩
  exact ZWw.1 h1 _ hm
 have ha:(atT s 0==3)=true:=by rw[ZRE hp];exact h4
 have ha':atT s 0=3:=eq_of_beq ha;have hw0:ZI s [1] 0=0:=by
  rw[NB s [1] hp,ha'];rfl
 have hg0:YP s 0=0:=by
  unfold YP;rw[hw0];unfold K4;rw[ha'];rfl
 have hW:ZI s [3,4,5] 0=s.size:=by unfold ZI;exact ZRG s _ hall _ 0<|by omega
 have hd:decide (W (((s.size:Nat):Int)-((0:Nat):Int))>24)=false:=by
  have:W (((s.size:Nat):Int)-((0:Nat):Int))=(s.size:Int)-((0:Nat):Int):=YM (by omega)<|by omega
  rw[this];exact decide_eq_false<|by omega
 have hn:We s 0=⟨⟨1,((0:Nat):Int),0,s⟩,s.size,0⟩:=by
  unfold We;rw[ha,cond_true,hW,hd,cond_false];have:ZX s 0 s.size=s:=ByteArray.extract_zero_size;rw[this]
 have hl:Up s=⟨[⟨1,((0:Nat):Int),0,s⟩],0,0⟩:=by
  unfold Up;rw[decide_eq_false (by omega),cond_false,hg0]
  unfold Xf;rw[decide_eq_true (by omega),cond_true,hn]
  have e:(ND ⟨⟨1,((0:Nat):Int),0,s⟩,s.size,0⟩ [] != 0)=false:=rfl;rw[e,cond_false];have e2:((⟨⟨1,((0:Nat):Int),0,s⟩,(s.size:Int),0⟩:Nx).stop).toNat=s.size:=rfl;rw[e2,ZTd];obtain⟨k,hk⟩:∃k,s.size=k+1:=⟨s.size-1,by omega⟩
  have e3:∀out,Xf s s.size s.size out=⟨out,0,0⟩:=λout=>by
   generalize hz:s.size=z at*;rw[hk];unfold Xf;rw[hz,decide_eq_false (by omega),cond_false]
  rw[e3];rfl
 unfold ZZ;rw[hl];simp[Ky]
def ZTf(s:Str):ZOW s=ZZ s:=by
 cases h:ZZ s with
 |true=>exact ZTc h
 |false=>
  cases h2:ZOW s with
  |false=>rfl
  |true=>rw[ZTe h2]at h;cases h
def ZOe(s:Str)(hs:s.size<=1000000):pfn rE 76 [.str s]=some (.bool<|ZZ s):=by rw[ZT6 s hs,ZTf]
def skB(s:Str)(bl:Bool)(i:Nat)(x:UInt8):Bool:=((x.toNat:Int)==32)&&(bl&&(decide ((i:Int)>0)&&(decide (((i+1:Nat):Int)<(s.size:Int))&&((Xc s (i-1):Int) != 32))))
def ZOt(s:Str)(bl:Bool)(i:Nat)(x:UInt8):Bool:=skB s bl i x||!H7 x.toNat
def plT(s:Str)(lo hi:Int)(bl:Bool):Bool:=Zu (ZOt s bl) 0 s.data.toList&&(decide ((s.size:Int)>=lo)&&decide ((s.size:Int)<=hi))
def ZRI(s:Str)(lo hi:Int)(bl:Bool)(hs:s.size<=1000000):pfn rE 82 [.str s,I lo,I hi,.bool bl]=some (.bool<|plT s lo hi bl):=by
 have L:=QT (E:=rE) (live:=[0,1,2,3,9]) (b:=c82L0b) (h:=[]) s.data.toList (ZOt s bl) (λi=>[(0,.str s),(1,I lo),(2,I hi),(3,.bool bl),(9,I i)]) 0
  (λfr=>get fr 0=.str s/\get fr 1=I lo/\get fr 2=I hi) (λfr=>get fr 8=.bool false) (λi=>rfl)
  (λi x hx hP=>by
   obtain⟨hg,hi0⟩:=ZPa hx;have hi:=Zh hi0;have hw:=Zx (n:=i)<|by omega
   have hn:((i:Int)).toNat=i:=rfl;have hi0':(0<=(i:Int))=True:=by simp
   unfold ZOt at hP;cases hk:skB s bl i x with
   |true=>
    unfold skB at hk;simp only[ZWe]at hk;obtain⟨c1,rfl,c5003,c5004,c5005⟩:=hk;rcases i with _|j
    .cases c5003
    .have hgj:=DQ (s:=s) (i:=j) (by omega)
     have hs1:IntKind.i64.wrap (((j+1:Nat):Int)-1)=((j:Nat):Int):=by rw[YM (by omega)<|by omega];omega
     have hnj:((j:Int)).toNat=j:=rfl;have hj0:(0<=(j:Int))=True:=by simp
     have c5':(((s.data.getD j 0).toNat:Int) != 32)=true:=c5005;refine⟨_,by simp only[go_sem,c82L0b,hi,hw,hn,hg,hi0',c1,c5003,c5004,hs1,hnj,hj0,hgj,c5',if_true,ZWH];rfl,?_⟩
     simp only[go_sem]
   |false=>
    rw[hk,ZWl,ZWD]at hP;unfold H7 at hP;simp only[ZXJ]at hP;obtain⟨⟨d1,d2⟩,d3⟩:=hP;have c1:((x.toNat:Int)==32)=false:=by
     have:=of_decide_eq_false d1;rw[beq_eq_false_iff_ne];omega
    refine⟨_,by simp only[go_sem,c82L0b,hi,hw,hn,hg,hi0',c1,d1,d2,d3,if_true,ZWH];rfl,?_⟩
    simp only[go_sem])
  (λi x hx hP=>by
   obtain⟨hg,hi0⟩:=ZPa hx;have hi:=Zh hi0;have hw:=Zx (n:=i)<|by omega
   have hn:((i:Int)).toNat=i:=rfl;have hi0':(0<=(i:Int))=True:=by simp
   unfold ZOt at hP;rw[ZXJ,ZXO]at hP;obtain⟨hk,ho⟩:=hP;unfold H7 at ho;unfold skB at hk;cases c1:((x.toNat:Int)==32)with
   |false=>
    cases d1:decide ((x.toNat:Int)<33)with
    |true=>
     refine⟨_,by simp only[go_sem,c82L0b,hi,hn,hg,hi0',c1,d1,if_true,ZWH];rfl,?_⟩
     simp only[go_sem]
    |false=>
     cases d2:decide ((x.toNat:Int)>126)with
     |true=>
      refine⟨_,by simp only[go_sem,c82L0b,hi,hn,hg,hi0',c1,d1,d2,if_true,ZWH];rfl,?_⟩
      simp only[go_sem]
     |false=>
      rw[d1,d2,ZWl,ZWl]at ho;refine⟨_,by simp only[go_sem,c82L0b,hi,hn,hg,hi0',c1,d1,d2,ho,if_true,ZWH];rfl,?_⟩
      simp only[go_sem]
   |true=>
    have d1:decide ((x.toNat:Int)<33)=true:=by have:=eq_of_beq c1;exact decide_eq_true<|by omega
    rw[c1,ZWf]at hk;cases bl with
    |false=>
     refine⟨_,by simp only[go_sem,c82L0b,hi,hn,hg,hi0',c1,d1,if_true,ZWH];rfl,?_⟩
     simp only[go_sem]
    |true=>
     rcases i with _|j
     .have h0:decide (((0:Nat):Int)>0)=false:=rfl;refine⟨_,by simp only[go_sem,c82L0b,hi,hn,hg,hi0',c1,d1,h0,if_true,ZWH];rfl,?_⟩
      simp only[go_sem]
     .have h0:decide (((j+1:Nat):Int)>0)=true:=decide_eq_true (by omega)
      rw[h0,ZWf,ZWf]at hk;cases c5004:decide (((j+1+1:Nat):Int)<(s.size:Int))with
      |false=>
       refine⟨_,by simp only[go_sem,c82L0b,hi,hw,hn,hg,hi0',c1,d1,h0,c5004,if_true,ZWH];rfl,?_⟩
       simp only[go_sem]
      |true=>
       rw[c5004,ZWf]at hk;have hgj:=DQ (s:=s) (i:=j)<|by omega
       have hs1:IntKind.i64.wrap (((j+1:Nat):Int)-1)=((j:Nat):Int):=by rw[YM (by omega)<|by omega];omega
       have hnj:((j:Int)).toNat=j:=rfl;have hj0:(0<=(j:Int))=True:=by simp
       have c5':(((s.data.getD j 0).toNat:Int) != 32)=false:=hk;refine⟨_,by simp only[go_sem,c82L0b,hi,hw,hn,hg,hi0',c1,d1,h0,c5004,hs1,hnj,hj0,hgj,c5',if_true,ZWH];rfl,?_⟩
       simp only[go_sem])
  (by
   rw[ZOL];exact⟨_,by simp only[go_sem,c82L0b,ZG];rfl,by simp only[go_sem],by simp only[go_sem],by simp only[go_sem]⟩)
 obtain⟨fr',h1,h3,h2⟩:=L;have h1':Zg rE [0,1,2,3,9] c82L0b [(0,.str s),(1,I lo),(2,I hi),(3,.bool bl),(9,.int .i64 0)] []=_:=h1;rw[Z5 (f:=82) rfl rfl];unfold plT;cases hc:Zu (ZOt s bl) 0 s.data.toList with
 |false=>rw[hc]at h1';simp only[go_sem,c82,c82L0,h1',h2 hc,ZWh,ZWn]
 |true=>
  rw[hc]at h1';obtain⟨g0,g1,g2⟩:=h3 hc;cases c1:decide ((s.size:Int)>=lo)<;>simp only[go_sem,c82,c82L0,h1',g0,g1,g2,c1,ZWh,ZWf]
def ZTg(s:Str)(hs:s.size<=1000000):pfn rE 150 [.str s]=some (.bool<|plT s 1 60 true):=by
 rw[Z5 (f:=150) rfl rfl];simp only[go_sem,c150,ZRI s _ _ _ hs]
def vlB(s:Str):Bool:=s.data.toList.all (λb=>!H8 b.toNat)&&(decide ((s.size:Int)>=1)&&decide ((s.size:Int)<=60))
def ZTh(s:Str)(hs:s.size<=1000000):pfn rE 85 [.str s]=some (.bool<|vlB s):=by
 have L:=QT (E:=rE) (live:=[0,3]) (b:=c85L0b) (h:=[]) s.data.toList (λ_ b=>!H8 b.toNat) (λi=>[(0,.str s),(3,I i)]) 0 (λfr=>get fr 0=.str s) (λfr=>get fr 2=.bool false) (λi=>rfl)
  (λi x hx hP=>by
   obtain⟨hg,hi0⟩:=ZPa hx;have hi:=Zh hi0;have hw:=Zx (n:=i)<|by omega
   have hn:((i:Int)).toNat=i:=rfl;have hi0':(0<=(i:Int))=True:=by simp
   unfold H8 at hP;have hy:∃y:Int,((x.toNat:Nat):Int)=y:=⟨_,rfl⟩;obtain⟨y,hy⟩:=hy;rw[hy]at hP;cases c1:decide (y<48)<;>cases c2:decide (y>57)<;>cases c5003:decide (y<97)<;>cases c5004:decide (y>122)<;>cases c5005:decide (y<65)<;>cases c5006:decide (y>90)<;>rw[c1,c2,c5003,c5004,c5005,c5006]at hP<;>first
    |exact absurd hP<|by decide
    |(refine⟨_,by simp only[go_sem,c85L0b,hi,hw,hn,hg,hi0',hy,c1,c2,c5003,c5004,c5005,c5006,if_true,ZWH];rfl,?_⟩;simp only[go_sem]))
  (λi x hx hP=>by
   obtain⟨hg,hi0⟩:=ZPa hx;have hi:=Zh hi0;have hn:((i:Int)).toNat=i:=rfl;have hi0':(0<=(i:Int))=True:=by simp
   unfold H8 at hP;have hy:∃y:Int,((x.toNat:Nat):Int)=y:=⟨_,rfl⟩;obtain⟨y,hy⟩:=hy;rw[hy]at hP;cases c1:decide (y<48)<;>cases c2:decide (y>57)<;>cases c5003:decide (y<97)<;>cases c5004:decide (y>122)<;>cases c5005:decide (y<65)<;>cases c5006:decide (y>90)<;>rw[c1,c2,c5003,c5004,c5005,c5006]at hP<;>first
    |exact absurd hP<|by decide
    |(refine⟨_,by simp only[go_sem,c85L0b,hi,hn,hg,hi0',hy,c1,c2,c5003,c5004,c5005,c5006,if_true,ZWH];rfl,?_⟩;simp only[go_sem]))
  (by
   rw[ZOL];exact⟨_,by simp only[go_sem,c85L0b,ZG];rfl,by simp only[go_sem]⟩)
 obtain⟨fr',h1,h3,h2⟩:=L;have h1':Zg rE [0,3] c85L0b [(0,.str s),(3,.int .i64 0)] []=_:=h1;rw[Z5 (f:=85) rfl rfl];unfold vlB;rw[QE]at*;cases hc:s.data.toList.all (λb=>!H8 b.toNat)with
 |false=>rw[hc]at h1';simp only[go_sem,c85,c85L0,h1',h2 hc,ZWh,ZWn]
 |true=>
  rw[hc]at h1';have h3:=h3 hc;cases c1:decide ((s.size:Int)>=1)<;>simp only[go_sem,c85,c85L0,h1',h3,c1,ZWh,ZWf]
def ZTi(s:Str)(i:Nat)(h:Xc s i<128):Utf8.decode s i=(Xc s i,1):=by
 have e:(s.get! i).toNat=Xc s i:=rfl;unfold Utf8.decode;simp only[ZWZ,e,h,if_true]
def ZTj(s:Str)(i:Nat)(h:128<=Xc s i):128<=(Utf8.decode s i).1:=by
 have e:(s.get! i).toNat=Xc s i:=rfl;unfold Utf8.decode;have h':¬Xc s i<128:=by omega
 have he:Utf8.runeError=65533:=rfl;simp only[ZWZ,e,h',if_false,he];split
 .split<;>simp_all
 .split
  .split<;>simp_all<;>omega
  .split
   .split<;>simp_all<;>omega
   .simp
def ZRJ(p:Int->Bool)(hp:∀c:Nat,128<=c->p c=true)(s:Str):∀k i,s.size-i<k->decide (XI p s k i>=0)=(s.data.toList.drop i).any (λb=>p b.toNat)
 |0,i,h=>by omega
 |k+1,i,h=>by
  unfold XI;by_cases hi:i<s.size
  .have hb:Nat.blt i s.size=true:=by rw[N7];exact decide_eq_true hi
   have hl:i<s.data.toList.length:=by rw[ZOL];exact hi
   have hb0:Xc s i=(s.data.toList[i]'hl).toNat:=by
    unfold Xc;rw[ZX5,<-ZXv,ZWq hl];rfl
   rw[hb,cond_true,ZXo hl,ZWR,<-hb0];by_cases h8:Xc s i<128
   .rw[ZTi s i h8];cases hc:p (Xc s i)with
    |true=>simp
    |false=>
     rw[cond_false,ZWl];exact ZRJ p hp s k (i+1)<|by omega
   .have h8':128<=Xc s i:=by omega
    rw[hp _<|ZTj s i h8',hp _ h8'];simp
  .have hb:Nat.blt i s.size=false:=by rw[N7];exact decide_eq_false hi
   rw[hb,cond_false,ZYF<|by rw[ZOL];omega]
   rfl
def ZQk(p:Int->Bool)(hp:∀c:Nat,128<=c->p c=true)(s:Str):H6 p s=s.data.toList.any (λb=>p b.toNat):=by
 unfold H6;rw[ZRJ p hp s _ 0 (by omega),ZWA]
def ZRK(c:Nat)(h:128<=c):H7 c=true:=by
 unfold H7;rw[decide_eq_true (show(c:Int)>126 by omega)];simp
def ZTk(c:Nat)(h:128<=c):H8 c=true:=by
 unfold H8;rw[decide_eq_true (show(c:Int)>57 by omega),decide_eq_true (show(c:Int)>122 by omega),decide_eq_true (show(c:Int)>90 by omega)];simp
def ZQl(s:Str):(!Z3 s emp)=decide ((s.size:Int)>=1):=by
 cases h:Z3 s emp with
 |true=>
  rw[(Ky _ _).1 h];rfl
 |false=>
  symm
  rw[ZWi,decide_eq_true_eq];have:s.size≠0:=λe=>by
   have:s=emp:=ByteArray.ext<|ZY7 e;rw[this,(Ky _ _).2 rfl]at h;cases h
  omega
def ZPn{α:Type}(p:α->Bool)(l:List α):l.all (λb=>!p b) = !l.any p:=by
 induction l with
 |nil=>rfl
 |cons a r ih=>simp[ih]
def ZTl(s:Str)(hs:s.size<=1000000):pfn rE 85 [.str s]=some (.bool<|Uu s):=by
 rw[ZTh s hs];unfold vlB Uu;rw[ZQl,ZQk H8 ZTk,ZPn (λb:UInt8=>H8 b.toNat)]
 cases s.data.toList.any (λb:UInt8=>H8 b.toNat)<;>simp
def ZOE(b:UInt8):Bool:=!H7 b.toNat
def gdW(w:List UInt8):Bool:=!w.isEmpty&&w.all ZOE
def gT:Bool->List UInt8->Bool
 |st,[]=>!st
 |st,x::r=>bif x==32 then !st&&gT true r else ZOE x&&gT false r
def ZQm:List (List UInt8)->Bool
 |[]=>true
 |w::ws=>w.all ZOE&&ws.all gdW
def Z6q:ZOE 32=false:=rfl
def ZRL:∀l:List UInt8,gT true l=(Q4 32 l).all gdW/\gT false l=ZQm (Q4 32 l)
 |[]=>⟨rfl,rfl⟩
 |x::r=>by
  obtain⟨h1,h2⟩:=ZRL r;unfold gT Q4;cases hx:x==32 with
  |true=>rw[cond_true,cond_true,cond_true,h1];exact⟨rfl,rfl⟩
  |false=>
   rw[cond_false,cond_false,cond_false,h2];cases hs:Q4 32 r with
   |nil=>simp[ZQm,gdW]
   |cons w ws=>simp[ZQm,gdW,ZXp]
def ZQn(c:UInt8):∀(l:List UInt8),∀w∈Q4 c l,w.length<=l.length
 |[],w,h=>by simp[Q4]at h;subst h;simp
 |x::r,w,h=>by
  unfold Q4 at h;cases hx:x==c with
  |true=>
   rw[hx,cond_true]at h;rcases ZWF.1 h with rfl|h
   .simp
   .have:=ZQn c r w h;simp;omega
  |false=>
   rw[hx,cond_false]at h;have ih:=ZQn c r;cases hs:Q4 c r with
   |nil=>rw[hs]at h;simp at h;subst h;simp
   |cons v vs=>
    rw[hs]at h ih;rcases ZWF.1 h with rfl|h
    .have:=ih v (by simp);simp;omega
    .have:=ih w (by simp[h]);simp;omega
def ZOu{α:Type}{p q:α->Bool}:∀{l:List α},(∀x∈l,p x=q x)->l.all p=l.all q
 |[],_=>rfl
 |a::r,h=>by rw[ZWV,ZWV,h a (by simp),ZOu λx hx=>h x<|by simp[hx]]
def ZTm{w:List UInt8}:(!w.isEmpty)=decide ((w.length:Int)>=1):=by
 cases w with
 |nil=>rfl
 |cons a r=>simp;omega
def ZTn(w:List UInt8)(h:w.length<=60):(!H9 ⟨⟨w⟩⟩)=gdW w:=by
 have hz:ByteArray.size ⟨⟨w⟩⟩=w.length:=rfl;unfold H9 Jm gdW;rw[ZYu,ZQl,ZQk H7 ZRK,hz,ZTm,decide_eq_true (show(w.length:Int)<=60 by omega),ZWf]
 show(_&&!w.any (λb:UInt8=>H7 b.toNat))=_
 unfold ZOE;rw[ZPn (λb:UInt8=>H7 b.toNat)]
def ZTo(s:Str):Uv s=(decide ((s.size:Int)<=60)&&gT true s.data.toList):=by
 unfold Uv;cases h:decide ((s.size:Int)<=60)with
 |false=>rfl
 |true=>
  rw[ZWf,ZWf,(ZRL _).1,<-ZPn];unfold Yy;rw[ZXZ];apply ZOu;intro w hw;have:=ZQn 32 _ w hw;rw[ZOL]at this;exact ZTn w (by have:=of_decide_eq_true h;omega)
def ZRM(s:Str):∀(l:List UInt8)(i:Nat),s.data.toList.drop i=l->l≠[]->Zu (ZOt s true) i l=gT (decide (i=0)||Xc s (i-1)==32) l
 |[],i,h,hn=>absurd rfl hn
 |x::r,i,h,_=>by
  have hlen:s.data.toList.length-i=r.length+1:=by rw[<-List.length_drop,h];rfl
  rw[ZOL]at hlen;have hx:s.data.toList[i]?=some x:=by
   have:=ZXU (xs:=s.data.toList) (i:=i) (j:=0);rw[h]at this;simpa using this.symm
  have hb:Xc s i=x.toNat:=by
   unfold Xc;rw[ZX5,<-ZXv,hx];rfl
  have hr:s.data.toList.drop (i+1)=r:=by
   rw[<-ZXq,h];rfl
  have e32:((x.toNat:Int)==32)=(x==32):=by
   rw[ZWI,beq_iff_eq,beq_iff_eq];constructor
   .intro e;apply UInt8.toNat_inj.1;have:(32:UInt8).toNat=32:=rfl;omega
   .intro e;rw[e];rfl
  have e33:(Xc s i==32)=(x==32):=by
   rw[hb,<-e32,ZWI,beq_iff_eq,beq_iff_eq];omega
  have eo:H7 x.toNat = !ZOE x:=by unfold ZOE;rw[ZYu]
  show(ZOt s true i x&&Zu (ZOt s true) (i+1) r)=_
  rw[show ZOt s true i x=(skB s true i x||!H7 x.toNat)from rfl]
  unfold gT skB;rw[e32,eo,ZYu];cases r with
  |nil=>
   have hsz:decide (((i+1:Nat):Int)<(s.size:Int))=false:=by rw[decide_eq_false_iff_not];simp at hlen;omega
   rw[hsz];cases hx2:x==32 with
   |true=>rw[eq_of_beq hx2,Z6q];simp[gT,Zu]
   |false=>simp[gT,Zu]
  |cons y r'=>
   have hsz:decide (((i+1:Nat):Int)<(s.size:Int))=true:=by rw[decide_eq_true_iff];simp at hlen;omega
   have ih:=ZRM s (y::r') (i+1) hr<|by simp
   have e1:decide (i+1=0)=false:=by simp
   rw[ih,hsz,e1,ZWl,Nat.add_sub_cancel,e33];cases hx2:x==32 with
   |false=>simp
   |true=>
    rw[eq_of_beq hx2,Z6q,cond_true,ZWf,ZWf,ZWf,ZWp];have:(decide ((i:Int)>0)&&((Xc s (i-1):Int) != 32)) = !(decide (i=0)||Xc s (i-1)==32):=by
     rw[Bool.not_or,<-decide_not];congr 1
     .rw[decide_eq_decide];omega
     .rw[bne,Bool.not_eq_eq_eq_not,ZYu,ZWI,beq_iff_eq,beq_iff_eq];omega
    rw[this]
def ZTp(s:Str):plT s 1 60 true=Uv s:=by
 rw[ZTo];unfold plT;cases hl:s.data.toList with
 |nil=>
  have:s.size=0:=by rw[<-ZOL,hl];rfl
  rw[this];rfl
 |cons x r=>
  have hp:decide ((s.size:Int)>=1)=true:=by
   rw[decide_eq_true_iff,<-ZOL,hl,ZWJ];omega
  rw[<-hl,ZRM s s.data.toList 0 rfl (by rw[hl];simp),hp,ZWf,ZYI]
  rfl
def ZTq(s:Str)(hi:Int):plT s 1 hi false=Jm s hi:=by
 have e:ZOt s false=λ_ x=>ZOE x:=by
  funext i x
  unfold ZOt skB ZOE;simp
 unfold plT Jm;rw[e,QE,ZQl,ZQk H7 ZRK];unfold ZOE;rw[ZPn (λb:UInt8=>H7 b.toNat)]
 cases s.data.toList.any (λb:UInt8=>H7 b.toNat)<;>simp
def ZRN(s:Str)(hs:s.size<=1000000):pfn rE 150 [.str s]=some (.bool<|Uv s):=by rw[ZTg s hs,ZTp]
def ZTr(s:Str)(hi:Int)(hs:s.size<=1000000):pfn rE 82 [.str s,.int .i64 1,I hi,.bool false]=some (.bool<|Jm s hi):=by
 rw[<-ZTq];exact ZRI s 1 hi false hs
def pwD{α:Type}(eq:α->α->Bool):List α->List α->Bool
 |_,[]=>true
 |K,x::r=>!K.any (eq x)&&pwD eq (K++[x]) r
def ZPT{α:Type}(eq:α->α->Bool):∀(l K:List α),(l.foldl (Qi eq) K).length<=K.length+l.length/\((l.foldl (Qi eq) K).length=K.length+l.length↔pwD eq K l=true)
 |[],K=>⟨by simp,by simp[pwD]⟩
 |x::r,K=>by
  rw[ZXb];unfold pwD;have e:Qi eq K x=bif K.any (eq x)then K else K++[x]:=rfl;rw[e];cases hx:K.any (eq x)with
  |true=>
   obtain⟨h1,h2⟩:=ZPT eq r K;rw[cond_true,ZWJ];refine⟨by omega,⟨λh=>by omega,λh=>by simp at h⟩⟩
  |false=>
   obtain⟨h1,h2⟩:=ZPT eq r<|K++[x];rw[cond_false,ZWJ];rw[ZWx,ZYc]at h1 h2;refine⟨by omega,?_⟩
   rw[show K.length+(r.length+1)=K.length+1+r.length by omega,h2]
   simp
def ZRO{α:Type}(eq:α->α->Bool):∀(r K:List α),Zu (λi x=>!((K++r).take i).any (eq x)) K.length r=pwD eq K r
 |[],K=>rfl
 |x::r,K=>by
  have h:=ZRO eq r<|K++[x];rw[ZWU,ZYX,ZWx,ZYc]at h;show(!((K++x::r).take K.length).any (eq x)&&Zu _ (K.length+1) r)=_
  rw[h,List.take_left];rfl
def ZPy{α:Type}(eq:α->α->Bool)(l:List α):XH eq l=Zu (λi x=>!(l.take i).any (eq x)) 0 l:=by
 have h:=ZRO eq l [];rw[ZWQ]at h;rw[show(0:Nat)=([]:List α).length from rfl,h]
 unfold XH;have h2:=(ZPT eq l []).2;rw[ZWN,ZWr]at h2;rw[ZWI,beq_iff_eq,<-h2];omega
def ZPb{α:Type}(P Q:Nat->α->Bool):∀(l:List α)(i:Nat),Zu (λi x=>P i x&&Q i x) i l=(Zu P i l&&Zu Q i l)
 |[],i=>rfl
 |x::r,i=>by
  show((P i x&&Q i x)&&Zu (λi x=>P i x&&Q i x) (i+1) r)=((P i x&&Zu P (i+1) r)&&(Q i x&&Zu Q (i+1) r))
  rw[ZPb P Q r<|i+1];generalize Zu P (i+1) r=a;generalize Zu Q (i+1) r=b;cases P i x<;>cases Q i x<;>cases a<;>cases b<;>rfl
def ZPc{α:Type}{P Q:Nat->α->Bool}(l:List α)(i:Nat)(h:∀i x,P i x=Q i x):Zu P i l=Zu Q i l:=by
 rw[show P=Q from funext λi=>funext λx=>h i x]
def ZOv(x y:Str):Z3 x y=Z3 y x:=by
 rw[ZWI,Ky,Ky];exact eq_comm
def ZPo{α:Type}(p:α->Bool)(l:List α):(!l.any p)=l.all (λb=>!p b):=(ZPn p l).symm
def Vx(l:List Str)(i:Nat)(x:Str):Bool:=ZZ x&&(l.take i).all (λy=>!Z3 y x)
def ZRP(bw ex:Bool)(l:List Str)(hl:l.length<=1000000)(i:Nat)(x:Str)(hx:l[i]?=some x):∃fr',Zg rE [0,3,4] c80L0b [(0,.isl bw ex 1<|l.map encS),(3,I i),(4,.int .i64 0)] []=some (if(l.take i).all (λy=>!Z3 y x)=true then .exit 2 else .ret,fr',[])/\
 ((l.take i).all (λy=>!Z3 y x)=true->get fr' 0=.isl bw ex 1 (l.map encS)/\get fr' 3=I i)/\((l.take i).all (λy=>!Z3 y x)=false->get fr' 2=.bool false):=by
 have hgx:=Z6 (f:=encS) hx;have hli:=Z7 hx;have L:=QT (E:=rE) (live:=[0,3,4]) (b:=c80L0b) (h:=[]) (l.take i) (λ_ y=>!Z3 y x) (λk=>[(0,.isl bw ex 1<|l.map encS),(3,I i),(4,I k)]) 2
  (λfr=>get fr 0=.isl bw ex 1 (l.map encS)/\get fr 3=I i) (λfr=>get fr 2=.bool false) (λk=>rfl)
  (λk y hy hP=>by
   obtain⟨hy',hk⟩:=HH hy;have hgy:=Z6 (f:=encS) hy';have hlt:=Zh hk;have hw:=Zx (n:=k)<|by omega
   have hP':Z3 y x=false:=by simpa using hP
   cases bw<;>refine⟨_,by simp only[go_sem,c80L0b,hgx,hgy,hlt,hw,encS,hP'];rfl,?_⟩<;>simp only[go_sem])
  (λk y hy hP=>by
   obtain⟨hy',hk⟩:=HH hy;have hgy:=Z6 (f:=encS) hy';have hlt:=Zh hk;have hP':Z3 y x=true:=by simpa using hP
   cases bw<;>refine⟨_,by simp only[go_sem,c80L0b,hgx,hgy,hlt,encS,hP'];rfl,?_⟩<;>simp only[go_sem])
  (by
   have e:(l.take i).length=i:=by rw[ZWS];omega
   rw[e];exact⟨_,by simp only[go_sem,c80L0b,ZG];rfl,by simp only[go_sem],by simp only[go_sem]⟩)
 rw[QE]at L;exact L
def ZTs(bw ex:Bool)(l:List Str)(hl:l.length<=1000000)(hs:∀x∈l,x.size<=1000000):pfn rE 80 [.isl bw ex 1<|l.map encS]=some (.bool<|Zu (Vx l) 0 l):=by
 have L:=QT (E:=rE) (live:=[0,3]) (b:=c80L1b) (h:=[]) l (Vx l) (λi=>[(0,.isl bw ex 1<|l.map encS),(3,I i)]) 0
  (λfr=>True) (λfr=>get fr 2=.bool false) (λk=>rfl)
  (λi x hx hP=>by
   have hg:=Z6 (f:=encS) hx;have hlt:=Zh<|Z7 hx;have hw:=Zx (n:=i) (by have:=Z7 hx;omega)
   obtain⟨fr',h1,h2,_⟩:=ZRP bw ex l hl i x hx;have hn:=ZOe x<|hs x<|ZWu hx;unfold Vx at hP;rw[ZWe]at hP;rw[hP.2]at h1;obtain⟨g0,g3⟩:=h2 hP.2;refine⟨_,by simp only[go_sem,c80L1b,c80L0,hg,hlt,hw,encS,hn,hP.1,h1,g0,g3,ZWd,ZWg,if_true];rfl,?_⟩
   simp only[go_sem])
  (λi x hx hP=>by
   have hg:=Z6 (f:=encS) hx;have hlt:=Zh<|Z7 hx;obtain⟨fr',h1,_,h2⟩:=ZRP bw ex l hl i x hx;have hn:=ZOe x<|hs x<|ZWu hx;unfold Vx at hP;cases c:ZZ x with
   |false=>
    refine⟨_,by simp only[go_sem,c80L1b,hg,hlt,encS,hn,c,ZWd,ZWi];rfl,?_⟩
    simp only[go_sem]
   |true=>
    rw[c,ZWf]at hP;rw[hP]at h1;refine⟨_,by simp only[go_sem,c80L1b,c80L0,hg,hlt,encS,hn,c,h1,ZWd,ZWg,ZWn,if_false];rfl,?_⟩
    simp only[go_sem,h2 hP])
  (⟨_,by simp only[go_sem,c80L1b,ZG,ZWd];rfl,trivial⟩)
 obtain⟨fr',h1,_,h2⟩:=L;have h1':Zg rE [0,3] c80L1b [(0,.isl bw ex 1<|l.map encS),(3,.int .i64 0)] []=_:=h1;rw[Z5 (f:=80) rfl rfl];cases hc:Zu (Vx l) 0 l with
 |false=>rw[hc]at h1';simp only[go_sem,c80,c80L1,h1',h2 hc,ZWn]
 |true=>rw[hc]at h1';simp only[go_sem,c80,c80L1,h1']
def ZTt(l:List Str):Zu (Vx l) 0 l=Qv l:=by
 unfold Qv;have e:∀i x,Vx l i x=(ZZ x&&!(l.take i).any (Z3 x)):=λi x=>by
  unfold Vx;rw[ZPo];congr 1;apply ZOu;intro y _;rw[ZOv]
 rw[ZPc l 0 e,ZPb,<-ZPy,QE<|λx=>ZZ x,ZYI]
 congr 1;unfold Ha;rw[<-ZPn];simp
def ZPp(bw ex:Bool)(l:List Str)(hl:l.length<=1000000)(hs:∀x∈l,x.size<=1000000):pfn rE 80 [.isl bw ex 1<|l.map encS]=some (.bool<|Qv l):=by
 rw[ZTs bw ex l hl hs,ZTt]
def ZOw(x y:Nm):Bool:=Z3 y.Lang x.Lang&&(y.Script==x.Script)
def ZOX(l:List Nm)(i:Nat)(x:Nm):Bool:=Uy x&&(l.take i).all (λy=>!ZOw x y)
def ZRQ(ex:Bool)(l:List Nm)(hl:l.length<=1000000)(i:Nat)(x:Nm)(hx:l[i]?=some x):∃fr',Zg rE [0,3,4] c79L0b [(0,.isl false ex 3<|l.map Nm.enc),(3,I i),(4,.int .i64 0)] []=some (if(l.take i).all (λy=>!ZOw x y)=true then .exit 2 else .ret,fr',[])/\
 ((l.take i).all (λy=>!ZOw x y)=true->get fr' 0=.isl false ex 3 (l.map Nm.enc)/\get fr' 3=I i)/\((l.take i).all (λy=>!ZOw x y)=false->get fr' 2=.bool false):=by
 have hgx:=Z6 (f:=Nm.enc) hx;have hli:=Z7 hx;have L:=QT (E:=rE) (live:=[0,3,4]) (b:=c79L0b) (h:=[]) (l.take i) (λ_ y=>!ZOw x y) (λk=>[(0,.isl false ex 3<|l.map Nm.enc),(3,I i),(4,I k)]) 2
  (λfr=>get fr 0=.isl false ex 3 (l.map Nm.enc)/\get fr 3=I i) (λfr=>get fr 2=.bool false) (λk=>rfl)
  (λk y hy hP=>by
   obtain⟨hy',hk⟩:=HH hy;have hgy:=Z6 (f:=Nm.enc) hy';have hlt:=Zh hk;have hw:=Zx (n:=k)<|by omega
   have hP':ZOw x y=false:=by simpa using hP
   unfold ZOw at hP';cases c:Z3 y.Lang x.Lang with
   |false=>
    refine⟨_,by simp only[go_sem,c79L0b,hgx,hgy,hlt,hw,Nm.enc,c];rfl,?_⟩
    simp only[go_sem]
   |true=>
    rw[c,ZWf]at hP';refine⟨_,by simp only[go_sem,c79L0b,hgx,hgy,hlt,hw,Nm.enc,c,hP'];rfl,?_⟩
    simp only[go_sem])
  (λk y hy hP=>by
   obtain⟨hy',hk⟩:=HH hy;have hgy:=Z6 (f:=Nm.enc) hy';have hlt:=Zh hk;have hP':ZOw x y=true:=by simpa using hP
   unfold ZOw at hP';rw[ZWe]at hP';refine⟨_,by simp only[go_sem,c79L0b,hgx,hgy,hlt,Nm.enc,hP'.1,hP'.2];rfl,?_⟩
   simp only[go_sem])
  (by
   have e:(l.take i).length=i:=by rw[ZWS];omega
   rw[e];exact⟨_,by simp only[go_sem,c79L0b,ZG];rfl,by simp only[go_sem],by simp only[go_sem]⟩)
 rw[QE]at L;exact L
def ZTu(ex:Bool)(l:List Nm)(hl:l.length<=1000000)(hs:∀x∈l,x.Lang.size<=1000000/\x.Text.size<=1000000):
 pfn rE 79 [.isl false ex 3<|l.map Nm.enc]=some (.bool<|Zu (ZOX l) 0 l&&(decide ((l.length:Int)>=1)&&decide ((l.length:Int)<=8))):=by
 have L:=QT (E:=rE) (live:=[0,3]) (b:=c79L1b) (h:=[]) l (ZOX l) (λi=>[(0,.isl false ex 3<|l.map Nm.enc),(3,I i)]) 0
  (λfr=>get fr 0=.isl false ex 3 (l.map Nm.enc)) (λfr=>get fr 2=.bool false) (λk=>rfl)
  (λi x hx hP=>by
   have hg:=Z6 (f:=Nm.enc) hx;have hlt:=Zh<|Z7 hx;have hw:=Zx (n:=i) (by have:=Z7 hx;omega)
   obtain⟨fr',h1,h2,_⟩:=ZRQ ex l hl i x hx;obtain⟨z1,z2⟩:=hs x<|ZWu hx;have hn:=ZOe x.Lang z1;have ht:=ZRN x.Text z2;unfold ZOX Uy ZD at hP;simp only[ZWe]at hP;obtain⟨⟨p1,⟨p2,p3⟩,p4⟩,p5⟩:=hP;have q2:decide (x.Script<0)=false:=by have:=of_decide_eq_true p2;exact decide_eq_false<|by omega
   have q3:decide (x.Script>7)=false:=by have:=of_decide_eq_true p3;exact decide_eq_false<|by omega
   rw[p5]at h1;obtain⟨g0,g3⟩:=h2 p5;refine⟨_,by simp only[go_sem,c79L1b,c79L0,hg,hlt,hw,Nm.enc,hn,ht,p1,q2,q3,p4,h1,g0,g3,ZWd,ZWg,if_true];rfl,?_⟩
   simp only[go_sem])
  (λi x hx hP=>by
   have hg:=Z6 (f:=Nm.enc) hx;have hlt:=Zh<|Z7 hx;obtain⟨fr',h1,_,h2⟩:=ZRQ ex l hl i x hx;obtain⟨z1,z2⟩:=hs x<|ZWu hx;have hn:=ZOe x.Lang z1;have ht:=ZRN x.Text z2;unfold ZOX Uy ZD at hP;cases p1:ZZ x.Lang with
   |false=>
    refine⟨_,by simp only[go_sem,c79L1b,hg,hlt,Nm.enc,hn,p1,ZWd,ZWi];rfl,?_⟩
    simp only[go_sem]
   |true=>
    cases q2:decide (x.Script<0)with
    |true=>
     refine⟨_,by simp only[go_sem,c79L1b,hg,hlt,Nm.enc,hn,p1,q2,ZWd,ZWg];rfl,?_⟩
     simp only[go_sem]
    |false=>
     have p2:decide (x.Script>=0)=true:=by have:=of_decide_eq_false q2;exact decide_eq_true<|by omega
     cases q3:decide (x.Script>7)with
     |true=>
      refine⟨_,by simp only[go_sem,c79L1b,hg,hlt,Nm.enc,hn,p1,q2,q3,ZWd,ZWg];rfl,?_⟩
      simp only[go_sem]
     |false=>
      have p3:decide (x.Script<=7)=true:=by have:=of_decide_eq_false q3;exact decide_eq_true<|by omega
      cases p4:Uv x.Text with
      |false=>
       refine⟨_,by simp only[go_sem,c79L1b,hg,hlt,Nm.enc,hn,ht,p1,q2,q3,p4,ZWd,ZWg,ZWi];rfl,?_⟩
       simp only[go_sem]
      |true=>
       rw[p1,p2,p3,p4,ZWf,ZWf,ZWf,ZWf]at hP;rw[hP]at h1;refine⟨_,by simp only[go_sem,c79L1b,c79L0,hg,hlt,Nm.enc,hn,ht,p1,q2,q3,p4,h1,ZWd,ZWg,ZWn,if_false];rfl,?_⟩
       simp only[go_sem,h2 hP])
  (⟨_,by simp only[go_sem,c79L1b,ZG,ZWd];rfl,by simp only[go_sem]⟩)
 obtain⟨fr',h1,h3,h2⟩:=L;have h1':Zg rE [0,3] c79L1b [(0,.isl false ex 3<|l.map Nm.enc),(3,.int .i64 0)] []=_:=h1;rw[Z5 (f:=79) rfl rfl];cases hc:Zu (ZOX l) 0 l with
 |false=>rw[hc]at h1';simp only[go_sem,c79,c79L1,h1',h2 hc,ZWn,ZWh]
 |true=>
  rw[hc]at h1';cases c1:decide ((l.length:Int)>=1)<;>simp only[go_sem,c79,c79L1,h1',h3 hc,c1,ZWd,ZWf,ZWh]
def ZRR{α β:Type}(f:α->β)(P:Nat->β->Bool):∀(l:List α)(i:Nat),Zu P i (l.map f)=Zu (λi x=>P i<|f x) i l
 |[],_=>rfl
 |x::r,i=>by
  show(P i (f x)&&Zu P (i+1) (r.map f))=(P i (f x)&&Zu (λi x=>P i<|f x) (i+1) r)
  rw[ZRR f P r<|i+1]
def ZTv(l:List Nm):(Zu (ZOX l) 0 l&&(decide ((l.length:Int)>=1)&&decide ((l.length:Int)<=8)))=Uz l:=by
 unfold Uz ZD;have e:∀i x,ZOX l i x=(Uy x&&!((l.map Xh).take i).any (Xg<|Xh x)):=λi x=>by
  unfold ZOX;rw[ZPo,<-ZYL,ZXZ];congr 1;apply ZOu;intro y _;have:Z3 emp emp=true:=(Ky _ _).2 rfl;show(!ZOw x y) = !Xg (Xh x) (Xh y)
  unfold ZOw Xg Xh;rw[this,ZWk,ZOv y.Lang,show(y.Script==x.Script)=(x.Script==y.Script)from ZYH]
 rw[ZPc l 0 e,ZPb,ZPy,ZRR,QE Uy];generalize Zu (λi x=>!((l.map Xh).take i).any (Xg<|Xh x)) 0 l=a
 cases l.all Uy<;>cases a<;>simp
def ZTw(ex:Bool)(l:List Nm)(hl:l.length<=1000000)(hs:∀x∈l,x.Lang.size<=1000000/\x.Text.size<=1000000):pfn rE 79 [.isl false ex 3<|l.map Nm.enc]=some (.bool<|Uz l):=by
 rw[ZTu ex l hl hs,ZTv]
def ZO9{α:Type}(eq:α->α->Bool)(b:List α)(i:Nat)(x:α):Bool:=match b[i]? with|some y=>eq x y|none=>true
def ZOp{α:Type}(eq:α->α->Bool)(a b:List α):Bool:=((a.length:Int)==(b.length:Int))&&Zu (ZO9 eq b) 0 a
def ZOY{α:Type}{eq:α->α->Bool}{a b:List α}(h:a.length=b.length){i:Nat}{x:α}(hx:a[i]?=some x):∃y,b[i]?=some y/\ZO9 eq b i x=eq x y:=by
 have:=Z7 hx;have hy:b[i]?=some (b[i]'(by omega)):=ZWq _
 exact⟨_,hy,by unfold ZO9;rw[hy]⟩
def ZPq{m n:Nat}:((m:Int) != (n:Int)) = !((m:Int)==(n:Int)):=rfl
def ZTx(e1 e2:Bool)(a b:List Nm)(ha:a.length<=1000000):pfn rE 141 [.isl false e1 3<|a.map Nm.enc,.isl false e2 3<|b.map Nm.enc]=some (.bool<|ZOp Xg a b):=by
 rw[Z5 (f:=141) rfl rfl];unfold ZOp;cases hc:((a.length:Int)==(b.length:Int))with
 |false=>simp only[go_sem,c141,hc,ZWd,ZPq,ZWi,ZWh]
 |true=>
  have hl:a.length=b.length:=by have:=eq_of_beq hc;omega
  have L:=Uf (E:=rE) (live:=[0,1,5]) (b:=c141L0b) (h:=[]) a (ZO9 Xg b) (λi=>[(0,.isl false e1 3<|a.map Nm.enc),(1,.isl false e2 3<|b.map Nm.enc),(5,I i)]) 0 (λfr=>get fr 4=.bool false) (λk=>rfl)
   (λi x hx hP=>by
    obtain⟨y,hy,e⟩:=ZOY (eq:=Xg) hl hx;rw[e]at hP;have hgx:=Z6 (f:=Nm.enc) hx;have hgy:=Z6 (f:=Nm.enc) hy;have hlt:=Zh<|Z7 hx;have hw:=Zx (n:=i) (by have:=Z7 hx;omega)
    unfold Xg at hP;refine⟨_,by simp only[go_sem,c141L0b,hgx,hgy,hlt,hw,Nm.enc,hP,ZWd,ZWg];rfl,?_⟩
    simp only[go_sem])
   (λi x hx hP=>by
    obtain⟨y,hy,e⟩:=ZOY (eq:=Xg) hl hx;rw[e]at hP;have hgx:=Z6 (f:=Nm.enc) hx;have hgy:=Z6 (f:=Nm.enc) hy;have hlt:=Zh<|Z7 hx;unfold Xg at hP;refine⟨_,by simp only[go_sem,c141L0b,hgx,hgy,hlt,Nm.enc,hP,ZWd,ZWi];rfl,?_⟩
    simp only[go_sem])
   (⟨_,by simp only[go_sem,c141L0b,ZG,ZWd];rfl⟩)
  obtain⟨fr',h1,h2⟩:=L;have h1':Zg rE [0,1,5] c141L0b [(0,.isl false e1 3<|a.map Nm.enc),(1,.isl false e2 3<|b.map Nm.enc),(5,.int .i64 0)] []=_:=h1;cases hA:Zu (ZO9 Xg b) 0 a with
  |false=>rw[hA]at h1';simp only[go_sem,c141,c141L0,hc,h1',h2 hA,ZWd,ZPq,ZWg,ZWf,ZWn]
  |true=>rw[hA]at h1';simp only[go_sem,c141,c141L0,hc,h1',ZWd,ZPq,ZWg,ZWf]
def ZTy(e1 e2:Bool)(a b:List Pt)(ha:a.length<=1000000):pfn rE 142 [.isl false e1 2<|a.map Pt.enc,.isl false e2 2<|b.map Pt.enc]=some (.bool<|ZOp QK a b):=by
 rw[Z5 (f:=142) rfl rfl];unfold ZOp;cases hc:((a.length:Int)==(b.length:Int))with
 |false=>simp only[go_sem,c142,hc,ZWd,ZPq,ZWi,ZWh]
 |true=>
  have hl:a.length=b.length:=by have:=eq_of_beq hc;omega
  have L:=Uf (E:=rE) (live:=[0,1,5]) (b:=c142L0b) (h:=[]) a (ZO9 QK b) (λi=>[(0,.isl false e1 2<|a.map Pt.enc),(1,.isl false e2 2<|b.map Pt.enc),(5,I i)]) 0 (λfr=>get fr 4=.bool false) (λk=>rfl)
   (λi x hx hP=>by
    obtain⟨y,hy,e⟩:=ZOY (eq:=QK) hl hx;rw[e]at hP;have hgx:=Z6 (f:=Pt.enc) hx;have hgy:=Z6 (f:=Pt.enc) hy;have hlt:=Zh<|Z7 hx;have hw:=Zx (n:=i) (by have:=Z7 hx;omega)
    unfold QK at hP;refine⟨_,by simp only[go_sem,c142L0b,hgx,hgy,hlt,hw,Pt.enc,hP,ZWd,ZWg];rfl,?_⟩
    simp only[go_sem])
   (λi x hx hP=>by
    obtain⟨y,hy,e⟩:=ZOY (eq:=QK) hl hx;rw[e]at hP;have hgx:=Z6 (f:=Pt.enc) hx;have hgy:=Z6 (f:=Pt.enc) hy;have hlt:=Zh<|Z7 hx;unfold QK at hP;refine⟨_,by simp only[go_sem,c142L0b,hgx,hgy,hlt,Pt.enc,hP,ZWd,ZWi];rfl,?_⟩
    simp only[go_sem])
   (⟨_,by simp only[go_sem,c142L0b,ZG,ZWd];rfl⟩)
  obtain⟨fr',h1,h2⟩:=L;have h1':Zg rE [0,1,5] c142L0b [(0,.isl false e1 2<|a.map Pt.enc),(1,.isl false e2 2<|b.map Pt.enc),(5,.int .i64 0)] []=_:=h1;cases hA:Zu (ZO9 QK b) 0 a with
  |false=>rw[hA]at h1';simp only[go_sem,c142,c142L0,hc,h1',h2 hA,ZWd,ZPq,ZWg,ZWf,ZWn]
  |true=>rw[hA]at h1';simp only[go_sem,c142,c142L0,hc,h1',ZWd,ZPq,ZWg,ZWf]
def ZOq(a b:Ent):Bool:=Z3 a.Id b.Id&&(QL a.An b.An&&QK a.bf b.bf)
def ZQo(a b:Gt):Bool:=
 (a.bp==b.bp)&&((a.Day==b.Day)&&((a.A==b.A)&&((a.B==b.B)&&((a.br==b.br)&&(Z3 a.Id b.Id&&(Z3 a.bq b.bq&&(Z3 a.Text b.Text&&(QL a.An b.An&&QK a.bf b.bf))))))))
def ZOZ(a b:Gt):Bool:=ZQo a b&&((((a.Ids.l.length:Int)==(b.Ids.l.length:Int))&&((a.Lst.l.length:Int)==(b.Lst.l.length:Int)))&&(Zu (ZO9 Z3 b.Ids.l) 0 a.Ids.l&&(Zu (ZO9 ZOq b.Lst.l) 0 a.Lst.l&&(ZOp Xg a.bh.l b.bh.l&&ZOp QK a.Path.l b.Path.l))))
def ZTz(a b:Gt)(hl:a.Ids.l.length=b.Ids.l.length)(ha:a.Ids.l.length<=1000000):∃fr',Zg rE [2,3,5] c74L0b [(2,evI a),(3,evI b),(5,.int .i64 0)] []=some (if Zu (ZO9 Z3 b.Ids.l) 0 a.Ids.l=true then .exit 0 else .ret,fr',[])/\
 (Zu (ZO9 Z3 b.Ids.l) 0 a.Ids.l=true->get fr' 2=evI a/\get fr' 3=evI b)/\(Zu (ZO9 Z3 b.Ids.l) 0 a.Ids.l=false->get fr' 4=.bool false):=by
 exact QT (E:=rE) (live:=[2,3,5]) (b:=c74L0b) (h:=[]) a.Ids.l (ZO9 Z3 b.Ids.l) (λi=>[(2,evI a),(3,evI b),(5,I i)]) 0 (λfr=>get fr 2=evI a/\get fr 3=evI b) (λfr=>get fr 4=.bool false) (λk=>rfl)
  (λi x hx hP=>by
   obtain⟨y,hy,e⟩:=ZOY (eq:=Z3) hl hx;rw[e]at hP;have hgx:=Z6 (f:=encS) hx;have hgy:=Z6 (f:=encS) hy;have hlt:=Zh<|Z7 hx;have hw:=Zx (n:=i) (by have:=Z7 hx;omega)
   refine⟨_,by simp only[go_sem,c74L0b,hgx,hgy,hlt,hw,encS,hP,ZWd,ZWg];rfl,?_⟩
   simp only[go_sem])
  (λi x hx hP=>by
   obtain⟨y,hy,e⟩:=ZOY (eq:=Z3) hl hx;rw[e]at hP;have hgx:=Z6 (f:=encS) hx;have hgy:=Z6 (f:=encS) hy;have hlt:=Zh<|Z7 hx;refine⟨_,by simp only[go_sem,c74L0b,hgx,hgy,hlt,encS,hP,ZWd,ZWi];rfl,?_⟩
   simp only[go_sem])
  (⟨_,by simp only[go_sem,c74L0b,ZG,ZWd];rfl,by simp only[go_sem],by simp only[go_sem]⟩)
def ZTA(a b:Gt)(hl:a.Lst.l.length=b.Lst.l.length)(ha:a.Lst.l.length<=1000000):∃fr',Zg rE [2,3,6] c74L1b [(2,evI a),(3,evI b),(6,.int .i64 0)] []=some (if Zu (ZO9 ZOq b.Lst.l) 0 a.Lst.l=true then .exit 2 else .ret,fr',[])/\
 (Zu (ZO9 ZOq b.Lst.l) 0 a.Lst.l=true->get fr' 2=evI a/\get fr' 3=evI b)/\(Zu (ZO9 ZOq b.Lst.l) 0 a.Lst.l=false->get fr' 4=.bool false):=by
 exact QT (E:=rE) (live:=[2,3,6]) (b:=c74L1b) (h:=[]) a.Lst.l (ZO9 ZOq b.Lst.l) (λi=>[(2,evI a),(3,evI b),(6,I i)]) 2 (λfr=>get fr 2=evI a/\get fr 3=evI b) (λfr=>get fr 4=.bool false) (λk=>rfl)
  (λi x hx hP=>by
   obtain⟨y,hy,e⟩:=ZOY (eq:=ZOq) hl hx;rw[e]at hP;have hgx:=Z6 (f:=Ent.enc) hx;have hgy:=Z6 (f:=Ent.enc) hy;have hlt:=Zh<|Z7 hx;have hw:=Zx (n:=i) (by have:=Z7 hx;omega)
   unfold ZOq QL QK at hP;simp only[ZWe]at hP;obtain⟨q1,⟨q2,q3,q4,q5⟩,q6,q7⟩:=hP;refine⟨_,by simp only[go_sem,c74L1b,hgx,hgy,hlt,hw,Ent.enc,q1,q2,q3,q4,q5,q6,q7,ZWd,ZWg,ZWk];rfl,?_⟩
   simp only[go_sem])
  (λi x hx hP=>by
   obtain⟨y,hy,e⟩:=ZOY (eq:=ZOq) hl hx;rw[e]at hP;have hgx:=Z6 (f:=Ent.enc) hx;have hgy:=Z6 (f:=Ent.enc) hy;have hlt:=Zh<|Z7 hx;have hP':(Z3 x.Id y.Id&&(x.An.N==y.An.N&&(Z3 x.An.bk y.An.bk&&(x.An.Num==y.An.Num&&(x.An.Den==y.An.Den&&(x.bf.X==y.bf.X&&x.bf.Y==y.bf.Y))))))=false:=by
    rw[<-hP];unfold ZOq QL QK;simp only[ZXp]
   refine⟨_,by simp only[go_sem,c74L1b,hgx,hgy,hlt,Ent.enc,hP',ZWd,ZWi];rfl,?_⟩
   simp only[go_sem])
  (⟨_,by simp only[go_sem,c74L1b,ZG,ZWd];rfl,by simp only[go_sem],by simp only[go_sem]⟩)
def ZOi(x y:Int):(x != y) = !(x==y):=rfl
set_option maxRecDepth 4000 in
set_option maxHeartbeats 2000000 in
def ZTB(a b:Gt)(h1:a.Ids.l.length<=1000000)(h2:a.Lst.l.length<=1000000)(h3:a.bh.l.length<=1000000)(h4:a.Path.l.length<=1000000):pfn rE 74 [evA a,evA b]=some (.bool<|ZOZ a b):=by
 have hh:(a.An.N==b.An.N&&(Z3 a.An.bk b.An.bk&&(a.An.Num==b.An.Num&&a.An.Den==b.An.Den)))=QL a.An b.An:=rfl;have hp:(a.bf.X==b.bf.X&&a.bf.Y==b.bf.Y)=QK a.bf b.bf:=rfl;rw[Z5 (f:=74) rfl rfl];unfold ZOZ ZQo;cases d0:(a.bp==b.bp)with
 |false=>simp only[go_sem,c74,ZOi,hh,hp,d0,ZWi,ZWg,ZWh,ZWf,ZWm,ZWk,ZWd]
 |true=>
 cases d1:(a.Day==b.Day)with
 |false=>simp only[go_sem,c74,ZOi,hh,hp,d0,d1,ZWi,ZWg,ZWh,ZWf,ZWm,ZWk,ZWd]
 |true=>
 cases d2:(a.A==b.A)with
 |false=>simp only[go_sem,c74,ZOi,hh,hp,d0,d1,d2,ZWi,ZWg,ZWh,ZWf,ZWm,ZWk,ZWd]
 |true=>
 cases d3:(a.B==b.B)with
 |false=>simp only[go_sem,c74,ZOi,hh,hp,d0,d1,d2,d3,ZWi,ZWg,ZWh,ZWf,ZWm,ZWk,ZWd]
 |true=>
 cases d4:(a.br==b.br)with
 |false=>simp only[go_sem,c74,ZOi,hh,hp,d0,d1,d2,d3,d4,ZWi,ZWg,ZWh,ZWf,ZWm,ZWk,ZWd]
 |true=>
 cases d5:Z3 a.Id b.Id with
 |false=>simp only[go_sem,c74,ZOi,hh,hp,d0,d1,d2,d3,d4,d5,ZWi,ZWg,ZWh,ZWf,ZWm,ZWk,ZWd]
 |true=>
 cases d6:Z3 a.bq b.bq with
 |false=>simp only[go_sem,c74,ZOi,hh,hp,d0,d1,d2,d3,d4,d5,d6,ZWi,ZWg,ZWh,ZWf,ZWm,ZWk,ZWd]
 |true=>
 cases d7:Z3 a.Text b.Text with
 |false=>simp only[go_sem,c74,ZOi,hh,hp,d0,d1,d2,d3,d4,d5,d6,d7,ZWi,ZWg,ZWh,ZWf,ZWm,ZWk,ZWd]
 |true=>
 cases d8:QL a.An b.An with
 |false=>simp only[go_sem,c74,ZOi,hh,hp,d0,d1,d2,d3,d4,d5,d6,d7,d8,ZWi,ZWg,ZWh,ZWf,ZWm,ZWk,ZWd]
 |true=>
 cases d9:QK a.bf b.bf with
 |false=>simp only[go_sem,c74,ZOi,hh,hp,d0,d1,d2,d3,d4,d5,d6,d7,d8,d9,ZWi,ZWg,ZWh,ZWf,ZWm,ZWk,ZWd]
 |true=>
 cases d10:((a.Ids.l.length:Int)==(b.Ids.l.length:Int))with
 |false=>simp only[go_sem,c74,ZOi,hh,hp,d0,d1,d2,d3,d4,d5,d6,d7,d8,d9,d10,ZWi,ZWg,ZWh,ZWf,ZWm,ZWk,ZWd]
 |true=>
 cases d11:((a.Lst.l.length:Int)==(b.Lst.l.length:Int))with
 |false=>simp only[go_sem,c74,ZOi,hh,hp,d0,d1,d2,d3,d4,d5,d6,d7,d8,d9,d10,d11,ZWi,ZWg,ZWh,ZWf,ZWm,ZWk,ZWd]
 |true=>
 have l0:a.Ids.l.length=b.Ids.l.length:=by have:=eq_of_beq d10;omega
 have l1:a.Lst.l.length=b.Lst.l.length:=by have:=eq_of_beq d11;omega
 obtain⟨f0,L0,L1,L2⟩:=ZTz a b l0 h1;cases g0:Zu (ZO9 Z3 b.Ids.l) 0 a.Ids.l with
 |false=>rw[g0]at L0;simp only[go_sem,c74,c74L0,ZOi,hh,hp,d0,d1,d2,d3,d4,d5,d6,d7,d8,d9,d10,d11,ZWi,ZWg,ZWh,ZWf,ZWm,ZWk,ZWd,L0,L2 g0,ZWn]
 |true=>
 rw[g0]at L0;obtain⟨e2,e3⟩:=L1 g0;obtain⟨f1,M0,M1,M2⟩:=ZTA a b l1 h2;cases g1:Zu (ZO9 ZOq b.Lst.l) 0 a.Lst.l with
 |false=>rw[g1]at M0;simp only[go_sem,c74,c74L0,c74L1,ZOi,hh,hp,d0,d1,d2,d3,d4,d5,d6,d7,d8,d9,d10,d11,ZWi,ZWg,ZWh,ZWf,ZWm,ZWk,ZWd,L0,e2,e3,M0,M2 g1,ZWn]
 |true=>
 rw[g1]at M0;obtain⟨k2,k3⟩:=M1 g1;have hN:=ZTx a.bh.ex b.bh.ex a.bh.l b.bh.l h3;have hP:=ZTy a.Path.ex b.Path.ex a.Path.l b.Path.l h4;cases g2:ZOp Xg a.bh.l b.bh.l<;>rw[g2]at hN<;>simp only[go_sem,c74,c74L0,c74L1,ZOi,hh,hp,d0,d1,d2,d3,d4,d5,d6,d7,d8,d9,d10,d11,ZWi,ZWg,ZWh,ZWf,ZWm,ZWk,ZWd,L0,e2,e3,M0,k2,k3,hN,hP]
def ZO2(e:Gt):Gt:=
 {bp:=e.bp,Day:=e.Day,
  A:=bif kIn e [1,13,14]then e.A else 0,
  B:=bif kIn e [13,14]then e.B else 0,
  br:=bif kIn e [15]then e.br else 0,
  Id:=bif kIn e [13,14]then emp else e.Id,
  bq:=bif kIn e [4,6,7]then e.bq else emp,
  Text:=bif kIn e [6,7,15]then e.Text else emp,
  Ids:=bif kIn e [10]then e.Ids else⟨false,[]⟩,
  bh:=bif kIn e [3]then e.bh else⟨false,[]⟩,
  An:=bif kIn e [6,10]then e.An else⟨0,emp,0,0⟩,
  bf:=bif kIn e [6,10]then e.bf else⟨0,0⟩,
  Path:=bif kIn e [1,2,5]then e.Path else⟨false,[]⟩,
  Lst:=bif kIn e [8,9]then e.Lst else⟨false,[]⟩}
def ZTC(e:Gt)(hk:e.bp=1):pfn rE 75 [evA e]=some (evA<|ZO2 e):=by
 have q1:(e.bp==1)=true:=by rw[hk];rfl
 have q2:(e.bp==2)=false:=by rw[hk];rfl
 have q5:(e.bp==5)=false:=by rw[hk];rfl
 have q3:(e.bp==3)=false:=by rw[hk];rfl
 have q4:(e.bp==4)=false:=by rw[hk];rfl
 have q6:(e.bp==6)=false:=by rw[hk];rfl
 have q7:(e.bp==7)=false:=by rw[hk];rfl
 have q8:(e.bp==8)=false:=by rw[hk];rfl
 have q9:(e.bp==9)=false:=by rw[hk];rfl
 have q10:(e.bp==10)=false:=by rw[hk];rfl
 have q13:(e.bp==13)=false:=by rw[hk];rfl
 have q14:(e.bp==14)=false:=by rw[hk];rfl
 have q15:(e.bp==15)=false:=by rw[hk];rfl
 have b0:kIn e [1,13,14]=true:=by unfold kIn;rw[hk];rfl
 have b1:kIn e [13,14]=false:=by unfold kIn;rw[hk];rfl
 have b2:kIn e [15]=false:=by unfold kIn;rw[hk];rfl
 have b3:kIn e [4,6,7]=false:=by unfold kIn;rw[hk];rfl
 have b4:kIn e [6,7,15]=false:=by unfold kIn;rw[hk];rfl
 have b5:kIn e [10]=false:=by unfold kIn;rw[hk];rfl
 have b6:kIn e [3]=false:=by unfold kIn;rw[hk];rfl
 have b7:kIn e [6,10]=false:=by unfold kIn;rw[hk];rfl
 have b8:kIn e [1,2,5]=true:=by unfold kIn;rw[hk];rfl
 have b9:kIn e [8,9]=false:=by unfold kIn;rw[hk];rfl
 rw[Z5 (f:=75) rfl rfl];unfold ZO2;simp only[go_sem,c75,q1,q2,q5,q3,q4,q6,q7,q8,q9,q10,q13,q14,q15,b0,b1,b2,b3,b4,b5,b6,b7,b8,b9]
 try rfl
def ZTD(e:Gt)(hk:e.bp=2):pfn rE 75 [evA e]=some (evA<|ZO2 e):=by
 have q1:(e.bp==1)=false:=by rw[hk];rfl
 have q2:(e.bp==2)=true:=by rw[hk];rfl
 have q5:(e.bp==5)=false:=by rw[hk];rfl
 have q3:(e.bp==3)=false:=by rw[hk];rfl
 have q4:(e.bp==4)=false:=by rw[hk];rfl
 have q6:(e.bp==6)=false:=by rw[hk];rfl
 have q7:(e.bp==7)=false:=by rw[hk];rfl
 have q8:(e.bp==8)=false:=by rw[hk];rfl
 have q9:(e.bp==9)=false:=by rw[hk];rfl
 have q10:(e.bp==10)=false:=by rw[hk];rfl
 have q13:(e.bp==13)=false:=by rw[hk];rfl
 have q14:(e.bp==14)=false:=by rw[hk];rfl
 have q15:(e.bp==15)=false:=by rw[hk];rfl
 have b0:kIn e [1,13,14]=false:=by unfold kIn;rw[hk];rfl
 have b1:kIn e [13,14]=false:=by unfold kIn;rw[hk];rfl
 have b2:kIn e [15]=false:=by unfold kIn;rw[hk];rfl
 have b3:kIn e [4,6,7]=false:=by unfold kIn;rw[hk];rfl
 have b4:kIn e [6,7,15]=false:=by unfold kIn;rw[hk];rfl
 have b5:kIn e [10]=false:=by unfold kIn;rw[hk];rfl
 have b6:kIn e [3]=false:=by unfold kIn;rw[hk];rfl
 have b7:kIn e [6,10]=false:=by unfold kIn;rw[hk];rfl
 have b8:kIn e [1,2,5]=true:=by unfold kIn;rw[hk];rfl
 have b9:kIn e [8,9]=false:=by unfold kIn;rw[hk];rfl
 rw[Z5 (f:=75) rfl rfl];unfold ZO2;simp only[go_sem,c75,q1,q2,q5,q3,q4,q6,q7,q8,q9,q10,q13,q14,q15,b0,b1,b2,b3,b4,b5,b6,b7,b8,b9]
 try rfl
def ZTE(e:Gt)(hk:e.bp=3):pfn rE 75 [evA e]=some (evA<|ZO2 e):=by
 have q1:(e.bp==1)=false:=by rw[hk];rfl
 have q2:(e.bp==2)=false:=by rw[hk];rfl
 have q5:(e.bp==5)=false:=by rw[hk];rfl
 have q3:(e.bp==3)=true:=by rw[hk];rfl
 have q4:(e.bp==4)=false:=by rw[hk];rfl
 have q6:(e.bp==6)=false:=by rw[hk];rfl
 have q7:(e.bp==7)=false:=by rw[hk];rfl
 have q8:(e.bp==8)=false:=by rw[hk];rfl
 have q9:(e.bp==9)=false:=by rw[hk];rfl
 have q10:(e.bp==10)=false:=by rw[hk];rfl
 have q13:(e.bp==13)=false:=by rw[hk];rfl
 have q14:(e.bp==14)=false:=by rw[hk];rfl
 have q15:(e.bp==15)=false:=by rw[hk];rfl
 have b0:kIn e [1,13,14]=false:=by unfold kIn;rw[hk];rfl
 have b1:kIn e [13,14]=false:=by unfold kIn;rw[hk];rfl
 have b2:kIn e [15]=false:=by unfold kIn;rw[hk];rfl
 have b3:kIn e [4,6,7]=false:=by unfold kIn;rw[hk];rfl
 have b4:kIn e [6,7,15]=false:=by unfold kIn;rw[hk];rfl
 have b5:kIn e [10]=false:=by unfold kIn;rw[hk];rfl
 have b6:kIn e [3]=true:=by unfold kIn;rw[hk];rfl
 have b7:kIn e [6,10]=false:=by unfold kIn;rw[hk];rfl
 have b8:kIn e [1,2,5]=false:=by unfold kIn;rw[hk];rfl
 have b9:kIn e [8,9]=false:=by unfold kIn;rw[hk];rfl
 rw[Z5 (f:=75) rfl rfl];unfold ZO2;simp only[go_sem,c75,q1,q2,q5,q3,q4,q6,q7,q8,q9,q10,q13,q14,q15,b0,b1,b2,b3,b4,b5,b6,b7,b8,b9]
 try rfl
def ZTF(e:Gt)(hk:e.bp=4):pfn rE 75 [evA e]=some (evA<|ZO2 e):=by
 have q1:(e.bp==1)=false:=by rw[hk];rfl
 have q2:(e.bp==2)=false:=by rw[hk];rfl
 have q5:(e.bp==5)=false:=by rw[hk];rfl
 have q3:(e.bp==3)=false:=by rw[hk];rfl
 have q4:(e.bp==4)=true:=by rw[hk];rfl
 have q6:(e.bp==6)=false:=by rw[hk];rfl
 have q7:(e.bp==7)=false:=by rw[hk];rfl
 have q8:(e.bp==8)=false:=by rw[hk];rfl
 have q9:(e.bp==9)=false:=by rw[hk];rfl
 have q10:(e.bp==10)=false:=by rw[hk];rfl
 have q13:(e.bp==13)=false:=by rw[hk];rfl
 have q14:(e.bp==14)=false:=by rw[hk];rfl
 have q15:(e.bp==15)=false:=by rw[hk];rfl
 have b0:kIn e [1,13,14]=false:=by unfold kIn;rw[hk];rfl
 have b1:kIn e [13,14]=false:=by unfold kIn;rw[hk];rfl
 have b2:kIn e [15]=false:=by unfold kIn;rw[hk];rfl
 have b3:kIn e [4,6,7]=true:=by unfold kIn;rw[hk];rfl
 have b4:kIn e [6,7,15]=false:=by unfold kIn;rw[hk];rfl
 have b5:kIn e [10]=false:=by unfold kIn;rw[hk];rfl
 have b6:kIn e [3]=false:=by unfold kIn;rw[hk];rfl
 have b7:kIn e [6,10]=false:=by unfold kIn;rw[hk];rfl
 have b8:kIn e [1,2,5]=false:=by unfold kIn;rw[hk];rfl
 have b9:kIn e [8,9]=false:=by unfold kIn;rw[hk];rfl
 rw[Z5 (f:=75) rfl rfl];unfold ZO2;simp only[go_sem,c75,q1,q2,q5,q3,q4,q6,q7,q8,q9,q10,q13,q14,q15,b0,b1,b2,b3,b4,b5,b6,b7,b8,b9]
 try rfl
def ZTG(e:Gt)(hk:e.bp=5):pfn rE 75 [evA e]=some (evA<|ZO2 e):=by
 have q1:(e.bp==1)=false:=by rw[hk];rfl
 have q2:(e.bp==2)=false:=by rw[hk];rfl
 have q5:(e.bp==5)=true:=by rw[hk];rfl
 have q3:(e.bp==3)=false:=by rw[hk];rfl
 have q4:(e.bp==4)=false:=by rw[hk];rfl
 have q6:(e.bp==6)=false:=by rw[hk];rfl
 have q7:(e.bp==7)=false:=by rw[hk];rfl
 have q8:(e.bp==8)=false:=by rw[hk];rfl
 have q9:(e.bp==9)=false:=by rw[hk];rfl
 have q10:(e.bp==10)=false:=by rw[hk];rfl
 have q13:(e.bp==13)=false:=by rw[hk];rfl
 have q14:(e.bp==14)=false:=by rw[hk];rfl
 have q15:(e.bp==15)=false:=by rw[hk];rfl
 have b0:kIn e [1,13,14]=false:=by unfold kIn;rw[hk];rfl
 have b1:kIn e [13,14]=false:=by unfold kIn;rw[hk];rfl
 have b2:kIn e [15]=false:=by unfold kIn;rw[hk];rfl
 have b3:kIn e [4,6,7]=false:=by unfold kIn;rw[hk];rfl
 have b4:kIn e [6,7,15]=false:=by unfold kIn;rw[hk];rfl
 have b5:kIn e [10]=false:=by unfold kIn;rw[hk];rfl
 have b6:kIn e [3]=false:=by unfold kIn;rw[hk];rfl
 have b7:kIn e [6,10]=false:=by unfold kIn;rw[hk];rfl
 have b8:kIn e [1,2,5]=true:=by unfold kIn;rw[hk];rfl
 have b9:kIn e [8,9]=false:=by unfold kIn;rw[hk];rfl
 rw[Z5 (f:=75) rfl rfl];unfold ZO2;simp only[go_sem,c75,q1,q2,q5,q3,q4,q6,q7,q8,q9,q10,q13,q14,q15,b0,b1,b2,b3,b4,b5,b6,b7,b8,b9]
 try rfl
def ZTH(e:Gt)(hk:e.bp=6):pfn rE 75 [evA e]=some (evA<|ZO2 e):=by
 have q1:(e.bp==1)=false:=by rw[hk];rfl
 have q2:(e.bp==2)=false:=by rw[hk];rfl
 have q5:(e.bp==5)=false:=by rw[hk];rfl
 have q3:(e.bp==3)=false:=by rw[hk];rfl
 have q4:(e.bp==4)=false:=by rw[hk];rfl
 have q6:(e.bp==6)=true:=by rw[hk];rfl
 have q7:(e.bp==7)=false:=by rw[hk];rfl
 have q8:(e.bp==8)=false:=by rw[hk];rfl
 have q9:(e.bp==9)=false:=by rw[hk];rfl
 have q10:(e.bp==10)=false:=by rw[hk];rfl
 have q13:(e.bp==13)=false:=by rw[hk];rfl
 have q14:(e.bp==14)=false:=by rw[hk];rfl
 have q15:(e.bp==15)=false:=by rw[hk];rfl
 have b0:kIn e [1,13,14]=false:=by unfold kIn;rw[hk];rfl
 have b1:kIn e [13,14]=false:=by unfold kIn;rw[hk];rfl
 have b2:kIn e [15]=false:=by unfold kIn;rw[hk];rfl
 have b3:kIn e [4,6,7]=true:=by unfold kIn;rw[hk];rfl
 have b4:kIn e [6,7,15]=true:=by unfold kIn;rw[hk];rfl
 have b5:kIn e [10]=false:=by unfold kIn;rw[hk];rfl
 have b6:kIn e [3]=false:=by unfold kIn;rw[hk];rfl
 have b7:kIn e [6,10]=true:=by unfold kIn;rw[hk];rfl
 have b8:kIn e [1,2,5]=false:=by unfold kIn;rw[hk];rfl
 have b9:kIn e [8,9]=false:=by unfold kIn;rw[hk];rfl
 rw[Z5 (f:=75) rfl rfl];unfold ZO2;simp only[go_sem,c75,q1,q2,q5,q3,q4,q6,q7,q8,q9,q10,q13,q14,q15,b0,b1,b2,b3,b4,b5,b6,b7,b8,b9]
 try rfl
def ZTI(e:Gt)(hk:e.bp=7):pfn rE 75 [evA e]=some (evA<|ZO2 e):=by
 have q1:(e.bp==1)=false:=by rw[hk];rfl
 have q2:(e.bp==2)=false:=by rw[hk];rfl
 have q5:(e.bp==5)=false:=by rw[hk];rfl
 have q3:(e.bp==3)=false:=by rw[hk];rfl
 have q4:(e.bp==4)=false:=by rw[hk];rfl
 have q6:(e.bp==6)=false:=by rw[hk];rfl
 have q7:(e.bp==7)=true:=by rw[hk];rfl
 have q8:(e.bp==8)=false:=by rw[hk];rfl
 have q9:(e.bp==9)=false:=by rw[hk];rfl
 have q10:(e.bp==10)=false:=by rw[hk];rfl
 have q13:(e.bp==13)=false:=by rw[hk];rfl
 have q14:(e.bp==14)=false:=by rw[hk];rfl
 have q15:(e.bp==15)=false:=by rw[hk];rfl
 have b0:kIn e [1,13,14]=false:=by unfold kIn;rw[hk];rfl
 have b1:kIn e [13,14]=false:=by unfold kIn;rw[hk];rfl
 have b2:kIn e [15]=false:=by unfold kIn;rw[hk];rfl
 have b3:kIn e [4,6,7]=true:=by unfold kIn;rw[hk];rfl
 have b4:kIn e [6,7,15]=true:=by unfold kIn;rw[hk];rfl
 have b5:kIn e [10]=false:=by unfold kIn;rw[hk];rfl
 have b6:kIn e [3]=false:=by unfold kIn;rw[hk];rfl
 have b7:kIn e [6,10]=false:=by unfold kIn;rw[hk];rfl
 have b8:kIn e [1,2,5]=false:=by unfold kIn;rw[hk];rfl
 have b9:kIn e [8,9]=false:=by unfold kIn;rw[hk];rfl
 rw[Z5 (f:=75) rfl rfl];unfold ZO2;simp only[go_sem,c75,q1,q2,q5,q3,q4,q6,q7,q8,q9,q10,q13,q14,q15,b0,b1,b2,b3,b4,b5,b6,b7,b8,b9]
 try rfl
def ZTJ(e:Gt)(hk:e.bp=8):pfn rE 75 [evA e]=some (evA<|ZO2 e):=by
 have q1:(e.bp==1)=false:=by rw[hk];rfl
 have q2:(e.bp==2)=false:=by rw[hk];rfl
 have q5:(e.bp==5)=false:=by rw[hk];rfl
 have q3:(e.bp==3)=false:=by rw[hk];rfl
 have q4:(e.bp==4)=false:=by rw[hk];rfl
 have q6:(e.bp==6)=false:=by rw[hk];rfl
 have q7:(e.bp==7)=false:=by rw[hk];rfl
 have q8:(e.bp==8)=true:=by rw[hk];rfl
 have q9:(e.bp==9)=false:=by rw[hk];rfl
 have q10:(e.bp==10)=false:=by rw[hk];rfl
 have q13:(e.bp==13)=false:=by rw[hk];rfl
 have q14:(e.bp==14)=false:=by rw[hk];rfl
 have q15:(e.bp==15)=false:=by rw[hk];rfl
 have b0:kIn e [1,13,14]=false:=by unfold kIn;rw[hk];rfl
 have b1:kIn e [13,14]=false:=by unfold kIn;rw[hk];rfl
 have b2:kIn e [15]=false:=by unfold kIn;rw[hk];rfl
 have b3:kIn e [4,6,7]=false:=by unfold kIn;rw[hk];rfl
 have b4:kIn e [6,7,15]=false:=by unfold kIn;rw[hk];rfl
 have b5:kIn e [10]=false:=by unfold kIn;rw[hk];rfl
 have b6:kIn e [3]=false:=by unfold kIn;rw[hk];rfl
 have b7:kIn e [6,10]=false:=by unfold kIn;rw[hk];rfl
 have b8:kIn e [1,2,5]=false:=by unfold kIn;rw[hk];rfl
 have b9:kIn e [8,9]=true:=by unfold kIn;rw[hk];rfl
 rw[Z5 (f:=75) rfl rfl];unfold ZO2;simp only[go_sem,c75,q1,q2,q5,q3,q4,q6,q7,q8,q9,q10,q13,q14,q15,b0,b1,b2,b3,b4,b5,b6,b7,b8,b9]
 try rfl
def ZTK(e:Gt)(hk:e.bp=9):pfn rE 75 [evA e]=some (evA<|ZO2 e):=by
 have q1:(e.bp==1)=false:=by rw[hk];rfl
 have q2:(e.bp==2)=false:=by rw[hk];rfl
 have q5:(e.bp==5)=false:=by rw[hk];rfl
 have q3:(e.bp==3)=false:=by rw[hk];rfl
 have q4:(e.bp==4)=false:=by rw[hk];rfl
 have q6:(e.bp==6)=false:=by rw[hk];rfl
 have q7:(e.bp==7)=false:=by rw[hk];rfl
 have q8:(e.bp==8)=false:=by rw[hk];rfl
 have q9:(e.bp==9)=true:=by rw[hk];rfl
 have q10:(e.bp==10)=false:=by rw[hk];rfl
 have q13:(e.bp==13)=false:=by rw[hk];rfl
 have q14:(e.bp==14)=false:=by rw[hk];rfl
 have q15:(e.bp==15)=false:=by rw[hk];rfl
 have b0:kIn e [1,13,14]=false:=by unfold kIn;rw[hk];rfl
 have b1:kIn e [13,14]=false:=by unfold kIn;rw[hk];rfl
 have b2:kIn e [15]=false:=by unfold kIn;rw[hk];rfl
 have b3:kIn e [4,6,7]=false:=by unfold kIn;rw[hk];rfl
 have b4:kIn e [6,7,15]=false:=by unfold kIn;rw[hk];rfl
 have b5:kIn e [10]=false:=by unfold kIn;rw[hk];rfl
 have b6:kIn e [3]=false:=by unfold kIn;rw[hk];rfl
 have b7:kIn e [6,10]=false:=by unfold kIn;rw[hk];rfl
 have b8:kIn e [1,2,5]=false:=by unfold kIn;rw[hk];rfl
 have b9:kIn e [8,9]=true:=by unfold kIn;rw[hk];rfl
 rw[Z5 (f:=75) rfl rfl];unfold ZO2;simp only[go_sem,c75,q1,q2,q5,q3,q4,q6,q7,q8,q9,q10,q13,q14,q15,b0,b1,b2,b3,b4,b5,b6,b7,b8,b9]
 try rfl
def ZTL(e:Gt)(hk:e.bp=10):pfn rE 75 [evA e]=some (evA<|ZO2 e):=by
 have q1:(e.bp==1)=false:=by rw[hk];rfl
 have q2:(e.bp==2)=false:=by rw[hk];rfl
 have q5:(e.bp==5)=false:=by rw[hk];rfl
 have q3:(e.bp==3)=false:=by rw[hk];rfl
 have q4:(e.bp==4)=false:=by rw[hk];rfl
 have q6:(e.bp==6)=false:=by rw[hk];rfl
 have q7:(e.bp==7)=false:=by rw[hk];rfl
 have q8:(e.bp==8)=false:=by rw[hk];rfl
 have q9:(e.bp==9)=false:=by rw[hk];rfl
 have q10:(e.bp==10)=true:=by rw[hk];rfl
 have q13:(e.bp==13)=false:=by rw[hk];rfl
 have q14:(e.bp==14)=false:=by rw[hk];rfl
 have q15:(e.bp==15)=false:=by rw[hk];rfl
 have b0:kIn e [1,13,14]=false:=by unfold kIn;rw[hk];rfl
 have b1:kIn e [13,14]=false:=by unfold kIn;rw[hk];rfl
 have b2:kIn e [15]=false:=by unfold kIn;rw[hk];rfl
 have b3:kIn e [4,6,7]=false:=by unfold kIn;rw[hk];rfl
 have b4:kIn e [6,7,15]=false:=by unfold kIn;rw[hk];rfl
 have b5:kIn e [10]=true:=by unfold kIn;rw[hk];rfl
 have b6:kIn e [3]=false:=by unfold kIn;rw[hk];rfl
 have b7:kIn e [6,10]=true:=by unfold kIn;rw[hk];rfl
 have b8:kIn e [1,2,5]=false:=by unfold kIn;rw[hk];rfl
 have b9:kIn e [8,9]=false:=by unfold kIn;rw[hk];rfl
 rw[Z5 (f:=75) rfl rfl];unfold ZO2;simp only[go_sem,c75,q1,q2,q5,q3,q4,q6,q7,q8,q9,q10,q13,q14,q15,b0,b1,b2,b3,b4,b5,b6,b7,b8,b9]
 try rfl
def ZTM(e:Gt)(hk:e.bp=11):pfn rE 75 [evA e]=some (evA<|ZO2 e):=by
 have q1:(e.bp==1)=false:=by rw[hk];rfl
 have q2:(e.bp==2)=false:=by rw[hk];rfl
 have q5:(e.bp==5)=false:=by rw[hk];rfl
 have q3:(e.bp==3)=false:=by rw[hk];rfl
 have q4:(e.bp==4)=false:=by rw[hk];rfl
 have q6:(e.bp==6)=false:=by rw[hk];rfl
 have q7:(e.bp==7)=false:=by rw[hk];rfl
 have q8:(e.bp==8)=false:=by rw[hk];rfl
 have q9:(e.bp==9)=false:=by rw[hk];rfl
 have q10:(e.bp==10)=false:=by rw[hk];rfl
 have q13:(e.bp==13)=false:=by rw[hk];rfl
 have q14:(e.bp==14)=false:=by rw[hk];rfl
 have q15:(e.bp==15)=false:=by rw[hk];rfl
 have b0:kIn e [1,13,14]=false:=by unfold kIn;rw[hk];rfl
 have b1:kIn e [13,14]=false:=by unfold kIn;rw[hk];rfl
 have b2:kIn e [15]=false:=by unfold kIn;rw[hk];rfl
 have b3:kIn e [4,6,7]=false:=by unfold kIn;rw[hk];rfl
 have b4:kIn e [6,7,15]=false:=by unfold kIn;rw[hk];rfl
 have b5:kIn e [10]=false:=by unfold kIn;rw[hk];rfl
 have b6:kIn e [3]=false:=by unfold kIn;rw[hk];rfl
 have b7:kIn e [6,10]=false:=by unfold kIn;rw[hk];rfl
 have b8:kIn e [1,2,5]=false:=by unfold kIn;rw[hk];rfl
 have b9:kIn e [8,9]=false:=by unfold kIn;rw[hk];rfl
 rw[Z5 (f:=75) rfl rfl];unfold ZO2;simp only[go_sem,c75,q1,q2,q5,q3,q4,q6,q7,q8,q9,q10,q13,q14,q15,b0,b1,b2,b3,b4,b5,b6,b7,b8,b9]
 try rfl
def ZTN(e:Gt)(hk:e.bp=12):pfn rE 75 [evA e]=some (evA<|ZO2 e):=by
 have q1:(e.bp==1)=false:=by rw[hk];rfl
 have q2:(e.bp==2)=false:=by rw[hk];rfl
 have q5:(e.bp==5)=false:=by rw[hk];rfl
 have q3:(e.bp==3)=false:=by rw[hk];rfl
 have q4:(e.bp==4)=false:=by rw[hk];rfl
 have q6:(e.bp==6)=false:=by rw[hk];rfl
 have q7:(e.bp==7)=false:=by rw[hk];rfl
 have q8:(e.bp==8)=false:=by rw[hk];rfl
 have q9:(e.bp==9)=false:=by rw[hk];rfl
 have q10:(e.bp==10)=false:=by rw[hk];rfl
 have q13:(e.bp==13)=false:=by rw[hk];rfl
 have q14:(e.bp==14)=false:=by rw[hk];rfl
 have q15:(e.bp==15)=false:=by rw[hk];rfl
 have b0:kIn e [1,13,14]=false:=by unfold kIn;rw[hk];rfl
 have b1:kIn e [13,14]=false:=by unfold kIn;rw[hk];rfl
 have b2:kIn e [15]=false:=by unfold kIn;rw[hk];rfl
 have b3:kIn e [4,6,7]=false:=by unfold kIn;rw[hk];rfl
 have b4:kIn e [6,7,15]=false:=by unfold kIn;rw[hk];rfl
 have b5:kIn e [10]=false:=by unfold kIn;rw[hk];rfl
 have b6:kIn e [3]=false:=by unfold kIn;rw[hk];rfl
 have b7:kIn e [6,10]=false:=by unfold kIn;rw[hk];rfl
 have b8:kIn e [1,2,5]=false:=by unfold kIn;rw[hk];rfl
 have b9:kIn e [8,9]=false:=by unfold kIn;rw[hk];rfl
 rw[Z5 (f:=75) rfl rfl];unfold ZO2;simp only[go_sem,c75,q1,q2,q5,q3,q4,q6,q7,q8,q9,q10,q13,q14,q15,b0,b1,b2,b3,b4,b5,b6,b7,b8,b9]
 try rfl
def ZTO(e:Gt)(hk:e.bp=13):pfn rE 75 [evA e]=some (evA<|ZO2 e):=by
 have q1:(e.bp==1)=false:=by rw[hk];rfl
 have q2:(e.bp==2)=false:=by rw[hk];rfl
 have q5:(e.bp==5)=false:=by rw[hk];rfl
 have q3:(e.bp==3)=false:=by rw[hk];rfl
 have q4:(e.bp==4)=false:=by rw[hk];rfl
 have q6:(e.bp==6)=false:=by rw[hk];rfl
 have q7:(e.bp==7)=false:=by rw[hk];rfl
 have q8:(e.bp==8)=false:=by rw[hk];rfl
 have q9:(e.bp==9)=false:=by rw[hk];rfl
 have q10:(e.bp==10)=false:=by rw[hk];rfl
 have q13:(e.bp==13)=true:=by rw[hk];rfl
 have q14:(e.bp==14)=false:=by rw[hk];rfl
 have q15:(e.bp==15)=false:=by rw[hk];rfl
 have b0:kIn e [1,13,14]=true:=by unfold kIn;rw[hk];rfl
 have b1:kIn e [13,14]=true:=by unfold kIn;rw[hk];rfl
 have b2:kIn e [15]=false:=by unfold kIn;rw[hk];rfl
 have b3:kIn e [4,6,7]=false:=by unfold kIn;rw[hk];rfl
 have b4:kIn e [6,7,15]=false:=by unfold kIn;rw[hk];rfl
 have b5:kIn e [10]=false:=by unfold kIn;rw[hk];rfl
 have b6:kIn e [3]=false:=by unfold kIn;rw[hk];rfl
 have b7:kIn e [6,10]=false:=by unfold kIn;rw[hk];rfl
 have b8:kIn e [1,2,5]=false:=by unfold kIn;rw[hk];rfl
 have b9:kIn e [8,9]=false:=by unfold kIn;rw[hk];rfl
 rw[Z5 (f:=75) rfl rfl];unfold ZO2;simp only[go_sem,c75,q1,q2,q5,q3,q4,q6,q7,q8,q9,q10,q13,q14,q15,b0,b1,b2,b3,b4,b5,b6,b7,b8,b9]
 try rfl
def ZTP(e:Gt)(hk:e.bp=14):pfn rE 75 [evA e]=some (evA<|ZO2 e):=by
 have q1:(e.bp==1)=false:=by rw[hk];rfl
 have q2:(e.bp==2)=false:=by rw[hk];rfl
 have q5:(e.bp==5)=false:=by rw[hk];rfl
 have q3:(e.bp==3)=false:=by rw[hk];rfl
 have q4:(e.bp==4)=false:=by rw[hk];rfl
 have q6:(e.bp==6)=false:=by rw[hk];rfl
 have q7:(e.bp==7)=false:=by rw[hk];rfl
 have q8:(e.bp==8)=false:=by rw[hk];rfl
 have q9:(e.bp==9)=false:=by rw[hk];rfl
 have q10:(e.bp==10)=false:=by rw[hk];rfl
 have q13:(e.bp==13)=false:=by rw[hk];rfl
 have q14:(e.bp==14)=true:=by rw[hk];rfl
 have q15:(e.bp==15)=false:=by rw[hk];rfl
 have b0:kIn e [1,13,14]=true:=by unfold kIn;rw[hk];rfl
 have b1:kIn e [13,14]=true:=by unfold kIn;rw[hk];rfl
 have b2:kIn e [15]=false:=by unfold kIn;rw[hk];rfl
 have b3:kIn e [4,6,7]=false:=by unfold kIn;rw[hk];rfl
 have b4:kIn e [6,7,15]=false:=by unfold kIn;rw[hk];rfl
 have b5:kIn e [10]=false:=by unfold kIn;rw[hk];rfl
 have b6:kIn e [3]=false:=by unfold kIn;rw[hk];rfl
 have b7:kIn e [6,10]=false:=by unfold kIn;rw[hk];rfl
 have b8:kIn e [1,2,5]=false:=by unfold kIn;rw[hk];rfl
 have b9:kIn e [8,9]=false:=by unfold kIn;rw[hk];rfl
 rw[Z5 (f:=75) rfl rfl];unfold ZO2;simp only[go_sem,c75,q1,q2,q5,q3,q4,q6,q7,q8,q9,q10,q13,q14,q15,b0,b1,b2,b3,b4,b5,b6,b7,b8,b9]
 try rfl
def ZTQ(e:Gt)(hk:e.bp=15):pfn rE 75 [evA e]=some (evA<|ZO2 e):=by
 have q1:(e.bp==1)=false:=by rw[hk];rfl
 have q2:(e.bp==2)=false:=by rw[hk];rfl
 have q5:(e.bp==5)=false:=by rw[hk];rfl
 have q3:(e.bp==3)=false:=by rw[hk];rfl
 have q4:(e.bp==4)=false:=by rw[hk];rfl
 have q6:(e.bp==6)=false:=by rw[hk];rfl
 have q7:(e.bp==7)=false:=by rw[hk];rfl
 have q8:(e.bp==8)=false:=by rw[hk];rfl
 have q9:(e.bp==9)=false:=by rw[hk];rfl
 have q10:(e.bp==10)=false:=by rw[hk];rfl
 have q13:(e.bp==13)=false:=by rw[hk];rfl
 have q14:(e.bp==14)=false:=by rw[hk];rfl
 have q15:(e.bp==15)=true:=by rw[hk];rfl
 have b0:kIn e [1,13,14]=false:=by unfold kIn;rw[hk];rfl
 have b1:kIn e [13,14]=false:=by unfold kIn;rw[hk];rfl
 have b2:kIn e [15]=true:=by unfold kIn;rw[hk];rfl
 have b3:kIn e [4,6,7]=false:=by unfold kIn;rw[hk];rfl
 have b4:kIn e [6,7,15]=true:=by unfold kIn;rw[hk];rfl
 have b5:kIn e [10]=false:=by unfold kIn;rw[hk];rfl
 have b6:kIn e [3]=false:=by unfold kIn;rw[hk];rfl
 have b7:kIn e [6,10]=false:=by unfold kIn;rw[hk];rfl
 have b8:kIn e [1,2,5]=false:=by unfold kIn;rw[hk];rfl
 have b9:kIn e [8,9]=false:=by unfold kIn;rw[hk];rfl
 rw[Z5 (f:=75) rfl rfl];unfold ZO2;simp only[go_sem,c75,q1,q2,q5,q3,q4,q6,q7,q8,q9,q10,q13,q14,q15,b0,b1,b2,b3,b4,b5,b6,b7,b8,b9]
 try rfl
def ZTR(e:Gt)(hk:ZD e.bp 1 15=false):pfn rE 75 [evA e]=some (evA<|ZO2 e):=by
 have hk2:e.bp<1\/15<e.bp:=by by_cases h:e.bp<1;exact Or.inl h;by_cases h2:15<e.bp;exact Or.inr h2;exfalso;simp[ZD]at hk;omega
 have q1:(e.bp==1)=false:=by rw[beq_eq_false_iff_ne];omega
 have q2:(e.bp==2)=false:=by rw[beq_eq_false_iff_ne];omega
 have q5:(e.bp==5)=false:=by rw[beq_eq_false_iff_ne];omega
 have q3:(e.bp==3)=false:=by rw[beq_eq_false_iff_ne];omega
 have q4:(e.bp==4)=false:=by rw[beq_eq_false_iff_ne];omega
 have q6:(e.bp==6)=false:=by rw[beq_eq_false_iff_ne];omega
 have q7:(e.bp==7)=false:=by rw[beq_eq_false_iff_ne];omega
 have q8:(e.bp==8)=false:=by rw[beq_eq_false_iff_ne];omega
 have q9:(e.bp==9)=false:=by rw[beq_eq_false_iff_ne];omega
 have q10:(e.bp==10)=false:=by rw[beq_eq_false_iff_ne];omega
 have q13:(e.bp==13)=false:=by rw[beq_eq_false_iff_ne];omega
 have q14:(e.bp==14)=false:=by rw[beq_eq_false_iff_ne];omega
 have q15:(e.bp==15)=false:=by rw[beq_eq_false_iff_ne];omega
 have b0:kIn e [1,13,14]=false:=by unfold kIn;simp only[ZWR,ZWY,q1,q13,q14,ZX8]
 have b1:kIn e [13,14]=false:=by unfold kIn;simp only[ZWR,ZWY,q13,q14,ZX8]
 have b2:kIn e [15]=false:=by unfold kIn;simp only[ZWR,ZWY,q15,ZX8]
 have b3:kIn e [4,6,7]=false:=by unfold kIn;simp only[ZWR,ZWY,q4,q6,q7,ZX8]
 have b4:kIn e [6,7,15]=false:=by unfold kIn;simp only[ZWR,ZWY,q6,q7,q15,ZX8]
 have b5:kIn e [10]=false:=by unfold kIn;simp only[ZWR,ZWY,q10,ZX8]
 have b6:kIn e [3]=false:=by unfold kIn;simp only[ZWR,ZWY,q3,ZX8]
 have b7:kIn e [6,10]=false:=by unfold kIn;simp only[ZWR,ZWY,q6,q10,ZX8]
 have b8:kIn e [1,2,5]=false:=by unfold kIn;simp only[ZWR,ZWY,q1,q2,q5,ZX8]
 have b9:kIn e [8,9]=false:=by unfold kIn;simp only[ZWR,ZWY,q8,q9,ZX8]
 rw[Z5 (f:=75) rfl rfl];unfold ZO2;simp only[go_sem,c75,q1,q2,q5,q3,q4,q6,q7,q8,q9,q10,q13,q14,q15,b0,b1,b2,b3,b4,b5,b6,b7,b8,b9]
 try rfl
def ZOg(e:Gt):pfn rE 75 [evA e]=some (evA<|ZO2 e):=by
 cases h:ZD e.bp 1 15 with
 |false=>exact ZTR e h
 |true=>
  have hk:1<=e.bp/\e.bp<=15:=by simpa[ZD]using h
  have:e.bp=1\/e.bp=2\/e.bp=3\/e.bp=4\/e.bp=5\/e.bp=6\/e.bp=7\/e.bp=8\/e.bp=9\/e.bp=10\/e.bp=11\/e.bp=12\/e.bp=13\/e.bp=14\/e.bp=15:=by omega
  rcases this with h|h|h|h|h|h|h|h|h|h|h|h|h|h|h
  .exact ZTC e h
  .exact ZTD e h
  .exact ZTE e h
  .exact ZTF e h
  .exact ZTG e h
  .exact ZTH e h
  .exact ZTI e h
  .exact ZTJ e h
  .exact ZTK e h
  .exact ZTL e h
  .exact ZTM e h
  .exact ZTN e h
  .exact ZTO e h
  .exact ZTP e h
  .exact ZTQ e h
def ZPU{α:Type}{eq:α->α->Bool}(hr:∀x,eq x x=true)(l:List α):∀(r:List α)(i:Nat),l.drop i=r->Zu (ZO9 eq l) i r=true
 |[],i,h=>rfl
 |x::r,i,h=>by
  have hx:l[i]?=some x:=by
   have:=ZXU (xs:=l) (i:=i) (j:=0);rw[h]at this;simpa using this.symm
  have hr':l.drop (i+1)=r:=by rw[<-ZXq,h];rfl
  show(ZO9 eq l i x&&Zu (ZO9 eq l) (i+1) r)=true
  rw[ZPU hr l r (i+1) hr'];unfold ZO9;rw[hx];simp[hr]
def ZRS{α:Type}{eq:α->α->Bool}(hr:∀x,eq x x=true)(l:List α):ZOp eq l l=true:=by
 unfold ZOp;rw[ZPU hr l l 0 rfl];simp
def ZRT{α:Type}(eq:α->α->Bool)(l:List α):ZOp eq [] l=((l.length:Int)==0):=by
 unfold ZOp;show((((0:Nat):Int)==(l.length:Int))&&true)=_
 rw[ZWk,ZWI,beq_iff_eq,beq_iff_eq];omega
def ZOM(x:Str):Z3 x x=true:=(Ky _ _).2 rfl
def ZRU(x:HN):QL x x=true:=by unfold QL;simp[ZOM]
def ZQp(x:Pt):QK x x=true:=by unfold QK;simp
def ZTS(x:Nm):Xg x x=true:=by unfold Xg;simp[ZOM]
def ZTT(x:Ent):ZOq x x=true:=by unfold ZOq;simp[ZOM,ZRU,ZQp]
def ZOx(x y:Int):(x==y)=(y==x):=ZYH
def ZRV(x y:HN):QL x y=QL y x:=by
 unfold QL;rw[ZOx x.N,ZOv,ZOx x.Num,ZOx x.Den]
def ZTU(x y:Pt):QK x y=QK y x:=by
 unfold QK;rw[ZOx x.X,ZOx x.Y]
def ZPV{s:Str}:Z3 s emp=true↔s.size=0:=by
 rw[Ky];constructor
 .rintro rfl;rfl
 .intro e;exact ByteArray.ext<|ZY7 e
def ZTV(x:Gt):Z3 (NF x) emp=(Z3 x.Id emp&&(Z3 x.bq emp&&Z3 x.Text emp)):=by
 unfold NF;rw[ZWI,ZWe,ZWe,ZPV,ZPV,ZPV,ZPV,ByteArray.size_append,ByteArray.size_append];omega
def ZTW(x:Gt)(h1:x.Ids.l.length<=100)(h2:x.bh.l.length<=100)(h3:x.Path.l.length<=100)(h4:x.Lst.l.length<=100):
 NG x=(((x.Ids.l.length:Int)==0)&&(((x.bh.l.length:Int)==0)&&(((x.Path.l.length:Int)==0)&&((x.Lst.l.length:Int)==0)))):=by
 unfold NG;have w1:W ((x.Ids.l.length:Int)+(x.bh.l.length:Int))=(x.Ids.l.length:Int)+(x.bh.l.length:Int):=YM (by omega)<|by omega
 rw[w1];have w2:W ((x.Ids.l.length:Int)+(x.bh.l.length:Int)+(x.Path.l.length:Int))=(x.Ids.l.length:Int)+(x.bh.l.length:Int)+(x.Path.l.length:Int):=YM (by omega)<|by omega
 rw[w2];have w3:W ((x.Ids.l.length:Int)+(x.bh.l.length:Int)+(x.Path.l.length:Int)+(x.Lst.l.length:Int))=(x.Ids.l.length:Int)+(x.bh.l.length:Int)+(x.Path.l.length:Int)+(x.Lst.l.length:Int):=YM (by omega)<|by omega
 rw[w3,ZWI,ZWe,ZWe,ZWe,beq_iff_eq,beq_iff_eq,beq_iff_eq,beq_iff_eq,beq_iff_eq];omega
def ZTX(e:Gt)(hs:EvS e):(!Fb (Zq e)&&NG (Zq e))=ZOZ (ZO2 e) e:=by
 have hz:∀n:Nat,n=0->((n:Int)==0)=true:=λn h=>by rw[h];rfl
 have k1:kIn e [1,13,14]=(kIn e [1]||kIn e [13,14]):=by unfold kIn;simp[Bool.or_assoc]
 have k15:(e.bp==15)=kIn e [15]:=by unfold kIn;simp
 have k10:(e.bp==10)=kIn e [10]:=by unfold kIn;simp
 have k3:(e.bp==3)=kIn e [3]:=by unfold kIn;simp
 have hA:((ZO2 e).A==e.A)=((Zq e).A==0):=by
  unfold ZO2 Zq;dsimp only;rw[k1];cases kIn e [1]<;>cases kIn e [13,14]<;>simp[ZOx 0 e.A]
 have hB:((ZO2 e).B==e.B)=((Zq e).B==0):=by
  unfold ZO2 Zq;dsimp only;cases kIn e [13,14]<;>simp[ZOx 0 e.B]
 have hO:((ZO2 e).br==e.br)=((Zq e).br==0):=by
  unfold ZO2 Zq;dsimp only;rw[k15];cases kIn e [15]<;>simp[ZOx 0 e.br]
 have hI:Z3 (ZO2 e).Id e.Id=Z3 (Zq e).Id emp:=by
  unfold ZO2 Zq;dsimp only;cases kIn e [13,14]<;>simp[ZOM,ZOv emp e.Id]
 have hT:Z3 (ZO2 e).bq e.bq=Z3 (Zq e).bq emp:=by
  unfold ZO2 Zq;dsimp only;cases kIn e [4,6,7]<;>simp[ZOM,ZOv emp e.bq]
 have hX:Z3 (ZO2 e).Text e.Text=Z3 (Zq e).Text emp:=by
  unfold ZO2 Zq;dsimp only;cases kIn e [6,7,15]<;>simp[ZOM,ZOv emp e.Text]
 have hN:QL (ZO2 e).An e.An=QL (Zq e).An ⟨0,emp,0,0⟩:=by
  unfold ZO2 Zq;dsimp only;cases kIn e [6,10]<;>simp[ZRU,ZRV ⟨0,emp,0,0⟩ e.An]
 have hP:QK (ZO2 e).bf e.bf=QK (Zq e).bf ⟨0,0⟩:=by
  unfold ZO2 Zq;dsimp only;cases kIn e [6,10]<;>simp[ZQp,ZTU ⟨0,0⟩ e.bf]
 have l1:(((ZO2 e).Ids.l.length:Int)==(e.Ids.l.length:Int))=(((Zq e).Ids.l.length:Int)==0):=by
  unfold ZO2 Zq;dsimp only;rw[k10];cases kIn e [10]<;>simp[ZOx 0 (e.Ids.l.length:Int)]
 have l2:(((ZO2 e).Lst.l.length:Int)==(e.Lst.l.length:Int))=(((Zq e).Lst.l.length:Int)==0):=by
  unfold ZO2 Zq;dsimp only;cases kIn e [8,9]<;>simp[ZOx 0 (e.Lst.l.length:Int)]
 have l3:Zu (ZO9 Z3 e.Ids.l) 0 (ZO2 e).Ids.l=true:=by
  unfold ZO2;dsimp only;cases kIn e [10]with
  |true=>exact ZPU ZOM _ _ 0 rfl
  |false=>rfl
 have l4:Zu (ZO9 ZOq e.Lst.l) 0 (ZO2 e).Lst.l=true:=by
  unfold ZO2;dsimp only;cases kIn e [8,9]with
  |true=>exact ZPU ZTT _ _ 0 rfl
  |false=>rfl
 have l5:ZOp Xg (ZO2 e).bh.l e.bh.l=(((Zq e).bh.l.length:Int)==0):=by
  unfold ZO2 Zq;dsimp only;rw[k3];cases kIn e [3]with
  |true=>exact ZRS ZTS _
  |false=>exact ZRT _ _
 have l6:ZOp QK (ZO2 e).Path.l e.Path.l=(((Zq e).Path.l.length:Int)==0):=by
  unfold ZO2 Zq;dsimp only;cases kIn e [1,2,5]with
  |true=>exact ZRS ZQp _
  |false=>exact ZRT _ _
 have s1:(Zq e).Ids.l.length<=100:=by
  unfold Zq;dsimp only;cases e.bp==10<;>simp[hs.ids]
 have s2:(Zq e).bh.l.length<=100:=by
  unfold Zq;dsimp only;cases e.bp==3<;>simp[hs.names]
 have s3:(Zq e).Path.l.length<=100:=by
  unfold Zq;dsimp only;cases kIn e [1,2,5]<;>simp[hs.path]
 have s4:(Zq e).Lst.l.length<=100:=by
  unfold Zq;dsimp only;cases kIn e [8,9]<;>simp[hs.lst]
 have hk:((ZO2 e).bp==e.bp)=true:=by unfold ZO2;simp
 have hd:((ZO2 e).Day==e.Day)=true:=by unfold ZO2;simp
 rw[ZTW _ s1 s2 s3 s4];unfold ZOZ ZQo Fb;rw[ZTV,hA,hB,hO,hI,hT,hX,hN,hP,l1,l2,l3,l4,l5,l6,hk,hd];simp only[ZOi];generalize Zq e=x;rw[ZWI];simp only[ZWe,ZWD,ZXJ,ZXO];constructor
 .rintro⟨⟨⟨⟨⟨⟨a,b⟩,c⟩,d1,d2,d3⟩,f⟩,g⟩,i1,i2,i3,i4⟩;exact⟨⟨trivial,trivial,a,b,c,d1,d2,d3,f,g⟩,⟨i1,i4⟩,trivial,trivial,i2,i3⟩
 .rintro⟨⟨_,_,a,b,c,d1,d2,d3,f,g⟩,⟨i1,i4⟩,_,_,i2,i3⟩;exact⟨⟨⟨⟨⟨⟨a,b⟩,c⟩,d1,d2,d3⟩,f⟩,g⟩,i1,i2,i3,i4⟩
def okU(e:Gt):Bool:=ZD e.Day 0 100000&&ZOZ (ZO2 e) e
def ZQq(e:Gt)(hs:EvS e):Q9 e=(ZD e.bp 1 15&&(okU e&&Q8 e)):=by
 unfold Q9 okU;rw[<-ZTX e hs];cases ZD e.bp 1 15<;>cases ZD e.Day 0 100000<;>simp[ZXp]
structure EvR(e:Gt):Prop extends EvS e where
 nms:∀x∈e.bh.l,x.Lang.size<=1000000/\x.Text.size<=1000000
def ZTY(e:Gt)(hs:EvS e):(ZO2 e).Ids.l.length<=1000000/\(ZO2 e).Lst.l.length<=1000000/\(ZO2 e).bh.l.length<=1000000/\(ZO2 e).Path.l.length<=1000000:=by
 have h1:=hs.ids;have h2:=hs.lst;have h3:=hs.names;have h4:=hs.path;unfold ZO2;dsimp only;cases kIn e [10]<;>cases kIn e [8,9]<;>cases kIn e [3]<;>cases kIn e [1,2,5]<;>simp only[cond_true,cond_false,ZWN]<;>omega
def ZOh(e:Gt)(hs:EvS e):pfn rE 74 [evA<|ZO2 e,evA e]=some (.bool<|ZOZ (ZO2 e) e):=by
 obtain⟨h1,h2,h3,h4⟩:=ZTY e hs;exact ZTB (ZO2 e) e h1 h2 h3 h4
def ZRW(e:Gt)(hs:EvS e)(h:okU e=false):pfn rE 36 [evA e]=some (.bool false):=by
 have hu:=ZOg e;have hS:=ZOh e hs;unfold okU ZD at h;generalize ZO2 e=u at h hu hS;rw[Z5 (f:=36) rfl rfl];cases d1:decide (e.Day<0)with
 |true=>simp only[go_sem,c36,d1]
 |false=>
 have p1:decide (e.Day>=0)=true:=by have:=of_decide_eq_false d1;exact decide_eq_true<|by omega
 cases d2:decide (e.Day>100000)with
 |true=>simp only[go_sem,c36,d1,d2]
 |false=>
 have p2:decide (e.Day<=100000)=true:=by have:=of_decide_eq_false d2;exact decide_eq_true<|by omega
 rw[p1,p2,ZWf,ZWf]at h;simp only[go_sem,c36,d1,d2,hu,hS,h,ZWi]
def ZOj(e:Gt)(h:okU e=true):decide (e.Day<0)=false/\decide (e.Day>100000)=false/\ZOZ (ZO2 e) e=true:=by
 unfold okU ZD at h;simp only[ZWe,decide_eq_true_eq]at h;exact⟨decide_eq_false (by omega),decide_eq_false (by omega),h.2⟩
def ZPW(n:Int):pfn rE 84 [I n]=some (.bool<|ZD n 0 63):=by
 rw[Z5 (f:=84) rfl rfl];unfold ZD;cases c:decide (n>=0)<;>simp only[go_sem,c84,c,ZWf,ZWh]
def ZRX(e:Gt)(hs:EvR e)(hu0:okU e=true)(hk:e.bp=1):pfn rE 36 [evA e]=some (.bool<|Q8 e):=by
 have hu:=ZOg e;have hS:=ZOh e hs.toEvS;obtain⟨d1,d2,d3⟩:=ZOj e hu0;rw[d3]at hS;generalize ZO2 e=u at hu hS;have hn:=ZOe e.Id (by have:=hs.id;omega)
 have q1:(e.bp==1)=true:=by rw[hk];rfl
 rw[Z5 (f:=36) rfl rfl];unfold Q8;have hv:=ZQe e.Path.l e.Path.ex (by have:=hs.path;omega)
 unfold ZD;cases c1:ZZ e.Id with
 |false=>simp only[go_sem,c36,d1,d2,hu,hS,hn,ZWg,q1,c1,cond_true,cond_false,ZWf,ZWh,ZWk,ZWm]
 |true=>
 cases c2:decide (e.A>=1)with
 |false=>simp only[go_sem,c36,d1,d2,hu,hS,hn,ZWg,q1,c1,c2,cond_true,cond_false,ZWf,ZWh,ZWk,ZWm]
 |true=>
 cases c5003:decide (e.A<=3)with
 |false=>simp only[go_sem,c36,d1,d2,hu,hS,hn,ZWg,q1,c1,c2,c5003,cond_true,cond_false,ZWf,ZWh,ZWk,ZWm]
 |true=>simp only[go_sem,c36,d1,d2,hu,hS,hn,ZWg,q1,c1,c2,c5003,hv,cond_true,cond_false,ZWf,ZWh,ZWk,ZWm]
def ZRY(e:Gt)(hs:EvR e)(hu0:okU e=true)(hk:e.bp=2):pfn rE 36 [evA e]=some (.bool<|Q8 e):=by
 have hu:=ZOg e;have hS:=ZOh e hs.toEvS;obtain⟨d1,d2,d3⟩:=ZOj e hu0;rw[d3]at hS;generalize ZO2 e=u at hu hS;have hn:=ZOe e.Id (by have:=hs.id;omega)
 have q1:(e.bp==1)=false:=by rw[hk];rfl
 have q2:(e.bp==2)=true:=by rw[hk];rfl
 rw[Z5 (f:=36) rfl rfl];unfold Q8;have hv:=ZSY e.Path.l e.Path.ex (by have:=hs.path;omega)
 cases c1:ZZ e.Id<;>simp only[go_sem,c36,d1,d2,hu,hS,hn,ZWg,q1,q2,c1,hv,cond_true,cond_false,ZWf,ZWh,ZWk,ZWm]
def ZRZ(e:Gt)(hs:EvR e)(hu0:okU e=true)(hk:e.bp=3):pfn rE 36 [evA e]=some (.bool<|Q8 e):=by
 have hu:=ZOg e;have hS:=ZOh e hs.toEvS;obtain⟨d1,d2,d3⟩:=ZOj e hu0;rw[d3]at hS;generalize ZO2 e=u at hu hS;have hn:=ZOe e.Id (by have:=hs.id;omega)
 have q1:(e.bp==1)=false:=by rw[hk];rfl
 have q2:(e.bp==2)=false:=by rw[hk];rfl
 have q3:(e.bp==3)=true:=by rw[hk];rfl
 rw[Z5 (f:=36) rfl rfl];unfold Q8;have hv:=ZTw e.bh.ex e.bh.l (by have:=hs.names;omega) hs.nms
 cases c1:ZZ e.Id<;>simp only[go_sem,c36,d1,d2,hu,hS,hn,ZWg,q1,q2,q3,c1,hv,cond_true,cond_false,ZWf,ZWh,ZWk,ZWm]
def ZTZ(e:Gt)(hs:EvR e)(hu0:okU e=true)(hk:e.bp=4):pfn rE 36 [evA e]=some (.bool<|Q8 e):=by
 have hu:=ZOg e;have hS:=ZOh e hs.toEvS;obtain⟨d1,d2,d3⟩:=ZOj e hu0;rw[d3]at hS;generalize ZO2 e=u at hu hS;have hn:=ZOe e.Id (by have:=hs.id;omega)
 have q1:(e.bp==1)=false:=by rw[hk];rfl
 have q2:(e.bp==2)=false:=by rw[hk];rfl
 have q3:(e.bp==3)=false:=by rw[hk];rfl
 have q4:(e.bp==4)=true:=by rw[hk];rfl
 rw[Z5 (f:=36) rfl rfl];unfold Q8;have hv:=ZPp false false [e.Id,e.bq] (by simp) (by
  have:=hs.id;have:=hs.other;intro x hx;simp only[ZWF,ZXt,or_false]at hx;rcases hx with rfl|rfl<;>omega)
 have hv':pfn rE 80 [.isl false false 1 [.str e.Id,.str e.bq]]=_:=hv;simp only[go_sem,c36,d1,d2,hu,hS,hn,ZWg,q1,q2,q3,q4,hv',cond_true,cond_false,ZWf,ZWh,ZWk,ZWm]
def ZS0(e:Gt)(hs:EvR e)(hu0:okU e=true)(hk:e.bp=5):pfn rE 36 [evA e]=some (.bool<|Q8 e):=by
 have hu:=ZOg e;have hS:=ZOh e hs.toEvS;obtain⟨d1,d2,d3⟩:=ZOj e hu0;rw[d3]at hS;generalize ZO2 e=u at hu hS;have hn:=ZOe e.Id (by have:=hs.id;omega)
 have q1:(e.bp==1)=false:=by rw[hk];rfl
 have q2:(e.bp==2)=false:=by rw[hk];rfl
 have q3:(e.bp==3)=false:=by rw[hk];rfl
 have q4:(e.bp==4)=false:=by rw[hk];rfl
 have q5:(e.bp==5)=true:=by rw[hk];rfl
 rw[Z5 (f:=36) rfl rfl];unfold Q8;have hv:=ZQe e.Path.l e.Path.ex (by have:=hs.path;omega)
 cases c1:ZZ e.Id<;>simp only[go_sem,c36,d1,d2,hu,hS,hn,ZWg,q1,q2,q3,q4,q5,c1,hv,cond_true,cond_false,ZWf,ZWh,ZWk,ZWm]
def ZS1(e:Gt)(hs:EvR e)(hu0:okU e=true)(hk:e.bp=6):pfn rE 36 [evA e]=some (.bool<|Q8 e):=by
 have hu:=ZOg e;have hS:=ZOh e hs.toEvS;obtain⟨d1,d2,d3⟩:=ZOj e hu0;rw[d3]at hS;generalize ZO2 e=u at hu hS;have hn:=ZOe e.Id (by have:=hs.id;omega)
 have q1:(e.bp==1)=false:=by rw[hk];rfl
 have q2:(e.bp==2)=false:=by rw[hk];rfl
 have q3:(e.bp==3)=false:=by rw[hk];rfl
 have q4:(e.bp==4)=false:=by rw[hk];rfl
 have q5:(e.bp==5)=false:=by rw[hk];rfl
 have q6:(e.bp==6)=true:=by rw[hk];rfl
 rw[Z5 (f:=36) rfl rfl];unfold Q8;have hv:=ZPp false false [e.Id,e.bq,e.Text] (by simp) (by
  have:=hs.id;have:=hs.other;have:=hs.text;intro x hx;simp only[ZWF,ZXt,or_false]at hx;rcases hx with rfl|rfl|rfl<;>omega)
 have hv':pfn rE 80 [.isl false false 1 [.str e.Id,.str e.bq,.str e.Text]]=_:=hv;have hm:=ZPS e.An;have ho:=ZO4 e.bf;cases c1:Qv [e.Id,e.bq,e.Text]with
 |false=>simp only[go_sem,c36,d1,d2,hu,hS,hn,ZWg,q1,q2,q3,q4,q5,q6,hv',c1,cond_true,cond_false,ZWf,ZWh,ZWk,ZWm]
 |true=>
 cases c2:YO e.An<;>simp only[go_sem,c36,d1,d2,hu,hS,hn,ZWg,q1,q2,q3,q4,q5,q6,hv',c1,hm,c2,ho,cond_true,cond_false,ZWf,ZWh,ZWk,ZWm]
def ZS2(e:Gt)(hs:EvR e)(hu0:okU e=true)(hk:e.bp=7):pfn rE 36 [evA e]=some (.bool<|Q8 e):=by
 have hu:=ZOg e;have hS:=ZOh e hs.toEvS;obtain⟨d1,d2,d3⟩:=ZOj e hu0;rw[d3]at hS;generalize ZO2 e=u at hu hS;have hn:=ZOe e.Id (by have:=hs.id;omega)
 have q1:(e.bp==1)=false:=by rw[hk];rfl
 have q2:(e.bp==2)=false:=by rw[hk];rfl
 have q3:(e.bp==3)=false:=by rw[hk];rfl
 have q4:(e.bp==4)=false:=by rw[hk];rfl
 have q5:(e.bp==5)=false:=by rw[hk];rfl
 have q6:(e.bp==6)=false:=by rw[hk];rfl
 have q7:(e.bp==7)=true:=by rw[hk];rfl
 rw[Z5 (f:=36) rfl rfl];unfold Q8;have hv:=ZPp false false [e.Id,e.bq] (by simp) (by
  have:=hs.id;have:=hs.other;intro x hx;simp only[ZWF,ZXt,or_false]at hx;rcases hx with rfl|rfl<;>omega)
 have hv':pfn rE 80 [.isl false false 1 [.str e.Id,.str e.bq]]=_:=hv;have hd:=ZTr e.Text 24 (by have:=hs.text;omega)
 cases c1:Qv [e.Id,e.bq]<;>simp only[go_sem,c36,d1,d2,hu,hS,hn,ZWg,q1,q2,q3,q4,q5,q6,q7,hv',c1,hd,cond_true,cond_false,ZWf,ZWh,ZWk,ZWm]
def ZU0(e:Gt)(hs:EvR e)(hu0:okU e=true)(hk:e.bp=11):pfn rE 36 [evA e]=some (.bool<|Q8 e):=by
 have hu:=ZOg e;have hS:=ZOh e hs.toEvS;obtain⟨d1,d2,d3⟩:=ZOj e hu0;rw[d3]at hS;generalize ZO2 e=u at hu hS;have hn:=ZOe e.Id (by have:=hs.id;omega)
 have q1:(e.bp==1)=false:=by rw[hk];rfl
 have q2:(e.bp==2)=false:=by rw[hk];rfl
 have q3:(e.bp==3)=false:=by rw[hk];rfl
 have q4:(e.bp==4)=false:=by rw[hk];rfl
 have q5:(e.bp==5)=false:=by rw[hk];rfl
 have q6:(e.bp==6)=false:=by rw[hk];rfl
 have q7:(e.bp==7)=false:=by rw[hk];rfl
 have q8:(e.bp==8)=false:=by rw[hk];rfl
 have q9:(e.bp==9)=false:=by rw[hk];rfl
 have q10:(e.bp==10)=false:=by rw[hk];rfl
 have q11:(e.bp==11)=true:=by rw[hk];rfl
 rw[Z5 (f:=36) rfl rfl];unfold Q8;simp only[go_sem,c36,d1,d2,hu,hS,hn,ZWg,q1,q2,q3,q4,q5,q6,q7,q8,q9,q10,q11,cond_true,cond_false,ZWf,ZWh,ZWk,ZWm]
def ZU1(e:Gt)(hs:EvR e)(hu0:okU e=true)(hk:e.bp=12):pfn rE 36 [evA e]=some (.bool<|Q8 e):=by
 have hu:=ZOg e;have hS:=ZOh e hs.toEvS;obtain⟨d1,d2,d3⟩:=ZOj e hu0;rw[d3]at hS;generalize ZO2 e=u at hu hS;have hn:=ZOe e.Id (by have:=hs.id;omega)
 have q1:(e.bp==1)=false:=by rw[hk];rfl
 have q2:(e.bp==2)=false:=by rw[hk];rfl
 have q3:(e.bp==3)=false:=by rw[hk];rfl
 have q4:(e.bp==4)=false:=by rw[hk];rfl
 have q5:(e.bp==5)=false:=by rw[hk];rfl
 have q6:(e.bp==6)=false:=by rw[hk];rfl
 have q7:(e.bp==7)=false:=by rw[hk];rfl
 have q8:(e.bp==8)=false:=by rw[hk];rfl
 have q9:(e.bp==9)=false:=by rw[hk];rfl
 have q10:(e.bp==10)=false:=by rw[hk];rfl
 have q11:(e.bp==11)=false:=by rw[hk];rfl
 have q12:(e.bp==12)=true:=by rw[hk];rfl
 rw[Z5 (f:=36) rfl rfl];unfold Q8;simp only[go_sem,c36,d1,d2,hu,hS,hn,ZWg,q1,q2,q3,q4,q5,q6,q7,q8,q9,q10,q11,q12,cond_true,cond_false,ZWf,ZWh,ZWk,ZWm]
def ZU2(e:Gt)(hs:EvR e)(hu0:okU e=true)(hk:e.bp=13):pfn rE 36 [evA e]=some (.bool<|Q8 e):=by
 have hu:=ZOg e;have hS:=ZOh e hs.toEvS;obtain⟨d1,d2,d3⟩:=ZOj e hu0;rw[d3]at hS;generalize ZO2 e=u at hu hS;have hn:=ZOe e.Id (by have:=hs.id;omega)
 have q1:(e.bp==1)=false:=by rw[hk];rfl
 have q2:(e.bp==2)=false:=by rw[hk];rfl
 have q3:(e.bp==3)=false:=by rw[hk];rfl
 have q4:(e.bp==4)=false:=by rw[hk];rfl
 have q5:(e.bp==5)=false:=by rw[hk];rfl
 have q6:(e.bp==6)=false:=by rw[hk];rfl
 have q7:(e.bp==7)=false:=by rw[hk];rfl
 have q8:(e.bp==8)=false:=by rw[hk];rfl
 have q9:(e.bp==9)=false:=by rw[hk];rfl
 have q10:(e.bp==10)=false:=by rw[hk];rfl
 have q11:(e.bp==11)=false:=by rw[hk];rfl
 have q12:(e.bp==12)=false:=by rw[hk];rfl
 have q13:(e.bp==13)=true:=by rw[hk];rfl
 rw[Z5 (f:=36) rfl rfl];unfold Q8;have ha:=ZPW e.A;have hb:=ZPW e.B;unfold K5;cases c1:ZD e.A 0 63 with
 |false=>simp only[go_sem,c36,d1,d2,hu,hS,hn,ZWg,q1,q2,q3,q4,q5,q6,q7,q8,q9,q10,q11,q12,q13,ha,c1,cond_true,cond_false,ZWf,ZWh,ZWk,ZWm]
 |true=>cases c2:ZD e.B 0 63<;>simp only[go_sem,c36,d1,d2,hu,hS,hn,ZWg,q1,q2,q3,q4,q5,q6,q7,q8,q9,q10,q11,q12,q13,ha,hb,c1,c2,cond_true,cond_false,ZWf,ZWh,ZWk,ZWm]
def ZU3(e:Gt)(hs:EvR e)(hu0:okU e=true)(hk:e.bp=14):pfn rE 36 [evA e]=some (.bool<|Q8 e):=by
 have hu:=ZOg e;have hS:=ZOh e hs.toEvS;obtain⟨d1,d2,d3⟩:=ZOj e hu0;rw[d3]at hS;generalize ZO2 e=u at hu hS;have hn:=ZOe e.Id (by have:=hs.id;omega)
 have q1:(e.bp==1)=false:=by rw[hk];rfl
 have q2:(e.bp==2)=false:=by rw[hk];rfl
 have q3:(e.bp==3)=false:=by rw[hk];rfl
 have q4:(e.bp==4)=false:=by rw[hk];rfl
 have q5:(e.bp==5)=false:=by rw[hk];rfl
 have q6:(e.bp==6)=false:=by rw[hk];rfl
 have q7:(e.bp==7)=false:=by rw[hk];rfl
 have q8:(e.bp==8)=false:=by rw[hk];rfl
 have q9:(e.bp==9)=false:=by rw[hk];rfl
 have q10:(e.bp==10)=false:=by rw[hk];rfl
 have q11:(e.bp==11)=false:=by rw[hk];rfl
 have q12:(e.bp==12)=false:=by rw[hk];rfl
 have q13:(e.bp==13)=false:=by rw[hk];rfl
 have q14:(e.bp==14)=true:=by rw[hk];rfl
 rw[Z5 (f:=36) rfl rfl];unfold Q8;have ha:=ZPW e.A;have hb:=ZPW e.B;unfold K5;cases c1:ZD e.A 0 63 with
 |false=>simp only[go_sem,c36,d1,d2,hu,hS,hn,ZWg,q1,q2,q3,q4,q5,q6,q7,q8,q9,q10,q11,q12,q13,q14,ha,c1,cond_true,cond_false,ZWf,ZWh,ZWk,ZWm]
 |true=>cases c2:ZD e.B 0 63<;>simp only[go_sem,c36,d1,d2,hu,hS,hn,ZWg,q1,q2,q3,q4,q5,q6,q7,q8,q9,q10,q11,q12,q13,q14,ha,hb,c1,c2,cond_true,cond_false,ZWf,ZWh,ZWk,ZWm]
def ZS3(e:Gt)(hs:EvR e)(hu0:okU e=true)(hk:e.bp=15):pfn rE 36 [evA e]=some (.bool<|Q8 e):=by
 have hu:=ZOg e;have hS:=ZOh e hs.toEvS;obtain⟨d1,d2,d3⟩:=ZOj e hu0;rw[d3]at hS;generalize ZO2 e=u at hu hS;have hn:=ZOe e.Id (by have:=hs.id;omega)
 have q1:(e.bp==1)=false:=by rw[hk];rfl
 have q2:(e.bp==2)=false:=by rw[hk];rfl
 have q3:(e.bp==3)=false:=by rw[hk];rfl
 have q4:(e.bp==4)=false:=by rw[hk];rfl
 have q5:(e.bp==5)=false:=by rw[hk];rfl
 have q6:(e.bp==6)=false:=by rw[hk];rfl
 have q7:(e.bp==7)=false:=by rw[hk];rfl
 have q8:(e.bp==8)=false:=by rw[hk];rfl
 have q9:(e.bp==9)=false:=by rw[hk];rfl
 have q10:(e.bp==10)=false:=by rw[hk];rfl
 have q11:(e.bp==11)=false:=by rw[hk];rfl
 have q12:(e.bp==12)=false:=by rw[hk];rfl
 have q13:(e.bp==13)=false:=by rw[hk];rfl
 have q14:(e.bp==14)=false:=by rw[hk];rfl
 have q15:(e.bp==15)=true:=by rw[hk];rfl
 rw[Z5 (f:=36) rfl rfl];unfold Q8;have hv:=ZTl e.Text (by have:=hs.text;omega)
 unfold ZD;cases c1:ZZ e.Id with
 |false=>simp only[go_sem,c36,d1,d2,hu,hS,hn,ZWg,q1,q2,q3,q4,q5,q6,q7,q8,q9,q10,q11,q12,q13,q14,q15,c1,cond_true,cond_false,ZWf,ZWh,ZWk,ZWm]
 |true=>
 cases c2:decide (e.br>=0)with
 |false=>simp only[go_sem,c36,d1,d2,hu,hS,hn,ZWg,q1,q2,q3,q4,q5,q6,q7,q8,q9,q10,q11,q12,q13,q14,q15,c1,c2,cond_true,cond_false,ZWf,ZWh,ZWk,ZWm]
 |true=>
 cases c5003:decide (e.br<=63)with
 |false=>simp only[go_sem,c36,d1,d2,hu,hS,hn,ZWg,q1,q2,q3,q4,q5,q6,q7,q8,q9,q10,q11,q12,q13,q14,q15,c1,c2,c5003,cond_true,cond_false,ZWf,ZWh,ZWk,ZWm]
 |true=>simp only[go_sem,c36,d1,d2,hu,hS,hn,ZWg,q1,q2,q3,q4,q5,q6,q7,q8,q9,q10,q11,q12,q13,q14,q15,c1,c2,c5003,hv,cond_true,cond_false,ZWf,ZWh,ZWk,ZWm]
def ZOk(n:Int):pfn rE 53 [I n]=some (.bool<|ZD n 0 63):=by
 rw[Z5 (f:=53) rfl rfl];unfold ZD;cases c:decide (n>=0)<;>simp only[go_sem,c53,c,ZWf,ZWh]
def ZOn(n a:Int):pfn rE 54 [I n,I a]=some (.bool<|ZD n a 100000):=by
 rw[Z5 (f:=54) rfl rfl];unfold ZD;cases c:decide (n>=a)<;>simp only[go_sem,c54,c,ZWf,ZWh]
def ZU4(s:Sta)(hs:StS s)(id:Str):pfn rE 105 [stA s,.str id]=some (I<|ZL s id):=by
 have L:=ZDU (E:=rE) (live:=[1,2,5]) (b:=c105L0b) (h:=[]) s.Gr (λx=>Z3 x.Id id) (λi=>[(1,.str id),(2,stI s),(5,I i)]) 0 (λi fr=>get fr 4=I i) (λk=>rfl)
  (λi x hx hP=>by
   have hg:=Z6 (f:=Ev.enc) hx;have hlt:=Zh<|Z7 hx;have hw:=Zx (n:=i) (by have:=Z7 hx;have:=hs.streets;omega)
   have hP':Z3 x.Id id=false:=hP;refine⟨_,by simp only[go_sem,c105L0b,hg,hlt,hw,Ev.enc,hP',ZWd];rfl,?_⟩
   simp only[go_sem])
  (λi x hx hP=>by
   have hg:=Z6 (f:=Ev.enc) hx;have hlt:=Zh<|Z7 hx;have hP':Z3 x.Id id=true:=hP;refine⟨_,by simp only[go_sem,c105L0b,hg,hlt,Ev.enc,hP',ZWd];rfl,?_⟩
   simp only[go_sem])
  (⟨_,by simp only[go_sem,c105L0b,ZG,ZWd];rfl⟩)
 obtain⟨fr',h1,h2⟩:=L;have h1':Zg rE [1,2,5] c105L0b [(1,.str id),(2,stI s),(5,.int .i64 0)] []=_:=h1;rw[Z5 (f:=105) rfl rfl];unfold ZL;by_cases hc:Zp (λx:Ev=>Z3 x.Id id) s.Gr 0=-1
 .rw[if_pos hc]at h1';rw[hc];simp only[go_sem,c105,c105L0,h1']
 .rw[if_neg hc]at h1';obtain⟨i,e,g4⟩:=h2 hc;rw[e];simp only[go_sem,c105,c105L0,h1',g4]
def ZU5(s:Sta)(hs:StS s)(id:Str):pfn rE 104 [stA s,.str id]=some (I<|Y1 s id):=by
 have L:=ZDU (E:=rE) (live:=[1,2,5]) (b:=c104L0b) (h:=[]) s.By (λx=>Z3 x.Id id) (λi=>[(1,.str id),(2,stI s),(5,I i)]) 0 (λi fr=>get fr 4=I i) (λk=>rfl)
  (λi x hx hP=>by
   have hg:=Z6 (f:=Fa.enc) hx;have hlt:=Zh<|Z7 hx;have hw:=Zx (n:=i) (by have:=Z7 hx;have:=hs.buildings;omega)
   have hP':Z3 x.Id id=false:=hP;refine⟨_,by simp only[go_sem,c104L0b,hg,hlt,hw,Fa.enc,hP',ZWd];rfl,?_⟩
   simp only[go_sem])
  (λi x hx hP=>by
   have hg:=Z6 (f:=Fa.enc) hx;have hlt:=Zh<|Z7 hx;have hP':Z3 x.Id id=true:=hP;refine⟨_,by simp only[go_sem,c104L0b,hg,hlt,Fa.enc,hP',ZWd];rfl,?_⟩
   simp only[go_sem])
  (⟨_,by simp only[go_sem,c104L0b,ZG,ZWd];rfl⟩)
 obtain⟨fr',h1,h2⟩:=L;have h1':Zg rE [1,2,5] c104L0b [(1,.str id),(2,stI s),(5,.int .i64 0)] []=_:=h1;rw[Z5 (f:=104) rfl rfl];unfold Y1;by_cases hc:Zp (λx:Fa=>Z3 x.Id id) s.By 0=-1
 .rw[if_pos hc]at h1';rw[hc];simp only[go_sem,c104,c104L0,h1']
 .rw[if_neg hc]at h1';obtain⟨i,e,g4⟩:=h2 hc;rw[e];simp only[go_sem,c104,c104L0,h1',g4]
def ZPz(s:Sta)(hs:StS s)(id:Str):pfn rE 59 [stA s,.str id]=some (I<|Zn s id):=by
 have L:=ZDU (E:=rE) (live:=[1,2,5]) (b:=c59L0b) (h:=[]) s.Bc (λx=>Z3 x.Id id) (λi=>[(1,.str id),(2,stI s),(5,I i)]) 0 (λi fr=>get fr 4=I i) (λk=>rfl)
  (λi x hx hP=>by
   have hg:=Z6 (f:=Gc.enc) hx;have hlt:=Zh<|Z7 hx;have hw:=Zx (n:=i) (by have:=Z7 hx;have:=hs.doors;omega)
   have hP':Z3 x.Id id=false:=hP;refine⟨_,by simp only[go_sem,c59L0b,hg,hlt,hw,Gc.enc,hP',ZWd];rfl,?_⟩
   simp only[go_sem])
  (λi x hx hP=>by
   have hg:=Z6 (f:=Gc.enc) hx;have hlt:=Zh<|Z7 hx;have hP':Z3 x.Id id=true:=hP;refine⟨_,by simp only[go_sem,c59L0b,hg,hlt,Gc.enc,hP',ZWd];rfl,?_⟩
   simp only[go_sem])
  (⟨_,by simp only[go_sem,c59L0b,ZG,ZWd];rfl⟩)
 obtain⟨fr',h1,h2⟩:=L;have h1':Zg rE [1,2,5] c59L0b [(1,.str id),(2,stI s),(5,.int .i64 0)] []=_:=h1;rw[Z5 (f:=59) rfl rfl];unfold Zn;by_cases hc:Zp (λx:Gc=>Z3 x.Id id) s.Bc 0=-1
 .rw[if_pos hc]at h1';rw[hc];simp only[go_sem,c59,c59L0,h1']
 .rw[if_neg hc]at h1';obtain⟨i,e,g4⟩:=h2 hc;rw[e];simp only[go_sem,c59,c59L0,h1',g4]
def ZQr(s:Sta)(hs:StS s)(a:Int):pfn rE 61 [stA s,I a]=some (I<|XJ s a):=by
 have n1:((1:Int)).toNat=1:=rfl;have n0:((0:Int)).toNat=0:=rfl;have L:=ZDU (E:=rE) (live:=[1,2,5]) (b:=c61L0b) (h:=[]) s.Gk (λp=>p.b==a) (λi=>[(1,I a),(2,stI s),(5,I i)]) 0 (λi fr=>∃p,s.Gk[i]?=some p/\get fr 4=I p.a) (λk=>rfl)
  (λi x hx hP=>by
   have hg:=Z6 (f:=be.enc) hx;have hlt:=Zh<|Z7 hx;have hw:=Zx (n:=i) (by have:=Z7 hx;have:=hs.merged;omega)
   have hP':(x.b==a)=false:=hP;refine⟨_,by simp only[go_sem,c61L0b,hg,hlt,hw,be.enc,XL,n1,if_true,hP',ZWd];rfl,?_⟩
   simp only[go_sem])
  (λi x hx hP=>by
   have hg:=Z6 (f:=be.enc) hx;have hlt:=Zh<|Z7 hx;have hP':(x.b==a)=true:=hP;refine⟨_,by simp only[go_sem,c61L0b,hg,hlt,be.enc,WJ,XL,n0,n1,if_true,hP',ZWd];rfl,x,hx,?_⟩
   simp only[go_sem])
  (⟨_,by simp only[go_sem,c61L0b,ZG,ZWd];rfl⟩)
 obtain⟨fr',h1,h2⟩:=L;have h1':Zg rE [1,2,5] c61L0b [(1,I a),(2,stI s),(5,.int .i64 0)] []=_:=h1;rw[Z5 (f:=61) rfl rfl];unfold XJ;rcases UA (λp:be=>p.b==a) s.Gk 0 with⟨hc,hf⟩|⟨j,x,hc,hx,hf⟩
 .rw[if_pos hc]at h1';rw[hf];simp only[go_sem,c61,c61L0,h1']
 .have hn:Zp (λp:be=>p.b==a) s.Gk 0≠-1:=by rw[hc];omega
  rw[if_neg hn]at h1';obtain⟨i,e,p,hp,g4⟩:=h2 hn;have:i=j:=by rw[hc]at e;omega
  subst this;rw[hx]at hp;cases hp;rw[hf];simp only[go_sem,c61,c61L0,h1',g4]
def ZOy(e:Gt)(hs:EvR e)(hk:e.bp=1\/e.bp=2\/e.bp=3\/e.bp=5\/e.bp=6\/e.bp=7\/e.bp=15):pfn rE 36 [evA e]=some (.bool<|Q9 e):=by
 have hw:ZD e.bp 1 15=true:=by unfold ZD;rw[ZWe,decide_eq_true_eq,decide_eq_true_eq];omega
 rw[ZQq e hs.toEvS,hw,ZWf];cases hu:okU e with
 |false=>exact ZRW e hs.toEvS hu
 |true=>
  rw[ZWf];rcases hk with h|h|h|h|h|h|h
  .exact ZRX e hs hu h
  .exact ZRY e hs hu h
  .exact ZRZ e hs hu h
  .exact ZS0 e hs hu h
  .exact ZS1 e hs hu h
  .exact ZS2 e hs hu h
  .exact ZS3 e hs hu h
def ZPX(l:List Nm)(ex:Bool)(hl:l.length<=100)(hs:∀x∈l,x.Lang.size<=1000000/\x.Text.size<=1000000):pfn rE 55 [.isl false ex 3<|l.map Nm.enc]=some (.bool<|Jp l ex):=by
 have h:=ZOy (Jo l ex) ⟨⟨by simp[Jo],hl,by simp[Jo],by simp[Jo],ZWM rfl,ZWM rfl,ZWM rfl⟩,hs⟩<|Or.inr<|Or.inr<|Or.inl rfl
 have h':pfn rE 36 [.agg [I 3,I 0,I 0,I 0,I 0,.str<|B [120],.str emp,.str emp,.isl false false 1 [],.isl false ex 3<|l.map Nm.enc,I 0,.str emp,I 0,I 0,I 0,I 0,.isl false false 2 [],.isl false false 7 []]]=some (.bool<|Q9<|Jo l ex):=h;rw[Z5 (f:=55) rfl rfl];unfold Jp;cases c:(l.length:Int)==0<;>simp only[go_sem,c55,c,h',ZWd,ZWj,ZWl]
def ZOF(e:Gt)(h:e.bh.l=[]):∀x∈e.bh.l,x.Lang.size<=1000000/\x.Text.size<=1000000:=by
 rw[h];intro x hx;cases hx
def ZON(d:Gc):Bool:=Q9 {NM d with bp:=15}&&(Z3 d.Fa emp&&(Z3 d.Ev emp&&(QL d.An ⟨0,emp,0,0⟩&&QK d.bf ⟨0,0⟩)))
def ZS4(d:Gc)(hd:DoS d):pfn rE 58 [Zo d]=some (.bool<|ZON d):=by
 have h:=ZOy {NM d with bp:=15} ⟨⟨by simp[NM],by simp[NM],by simp[NM],by simp[NM],hd.id,ZWM rfl,hd.veil⟩,ZOF _ rfl⟩<|by simp
 have h':pfn rE 36 [.agg [I 15,I 0,I 0,I 0,I d.br,.str d.Id,.str emp,.str d.Veil,.isl false false 1 [],.isl false false 3 [],I 0,.str emp,I 0,I 0,I 0,I 0,.isl false false 2 [],.isl false false 7 []]]=some (.bool<|Q9 {NM d with bp:=15}):=h
 have hn:(d.An.N==0&&(Z3 d.An.bk emp&&(d.An.Num==0&&d.An.Den==0)))=QL d.An ⟨0,emp,0,0⟩:=rfl;have hp:(d.bf.X==0&&d.bf.Y==0)=QK d.bf ⟨0,0⟩:=rfl;rw[Z5 (f:=58) rfl rfl];unfold ZON;cases c1:Q9 {NM d with bp:=15}with
 |false=>simp only[go_sem,c58,Zo,h',c1,ZWi,ZWh]
 |true=>
 cases c2:Z3 d.Fa emp with
 |false=>simp only[go_sem,c58,Zo,h',c1,c2,ZWg,ZWf,ZWh]
 |true=>
 cases c5003:Z3 d.Ev emp with
 |false=>simp only[go_sem,c58,Zo,h',c1,c2,c5003,ZWg,ZWf,ZWh]
 |true=>
 cases c5004:QL d.An ⟨0,emp,0,0⟩<;>simp only[go_sem,c58,Zo,h',c1,c2,c5003,hn,hp,c5004,ZWg,ZWf,ZWh]
def ZU6(d:Gc):ZON d=NN d:=by
 unfold ZON NN;cases Z3 d.Fa emp<;>cases Z3 d.Ev emp<;>cases QL d.An ⟨0,emp,0,0⟩<;>cases QK d.bf ⟨0,0⟩<;>simp
def ZP0(s:Sta)(d:Gc):Bool:=Q9 {Hf d with bp:=6}&&!NO s d
def ZPY{α:Type}(P:α->Bool)(l:List α)(h:decide (Zp P l 0>=0)=true):∃(j:Nat)(x:α),Zp P l 0=(j:Int)/\l[j]?=some x:=by
 rcases UA P l 0 with⟨hc,_⟩|⟨j,x,hc,hx,_⟩
 .rw[hc]at h;cases h
 .exact⟨j,x,by omega,hx⟩
def ZS5(s:Sta)(hs:StS s)(d:Gc)(hd:DoS d):pfn rE 57 [stA s,Zo d]=some (.bool<|ZP0 s d):=by
 have h:=ZOy {Hf d with bp:=6} ⟨⟨by simp[Hf],by simp[Hf],by simp[Hf],by simp[Hf],hd.id,hd.building,hd.street⟩,ZOF _ rfl⟩<|by simp
 have h':pfn rE 36 [.agg [I 6,I 0,I 0,I 0,I 0,.str d.Id,.str d.Fa,.str d.Ev,.isl false false 1 [],.isl false false 3 [],I d.An.N,.str d.An.bk,I d.An.Num,I d.An.Den,I d.bf.X,I d.bf.Y,.isl false false 2 [],.isl false false 7 []]]=some (.bool<|Q9 {Hf d with bp:=6}):=h
 have hb:=ZU5 s hs d.Fa;have ht:=ZU4 s hs d.Ev;rw[Z5 (f:=57) rfl rfl];unfold ZP0 NO;have neg:∀n:Int,decide (n<0) = !decide (n>=0):=λn=>by rw[<-decide_not,decide_eq_decide];omega
 rw[neg,neg];cases c1:Q9 {Hf d with bp:=6}with
 |false=>simp only[go_sem,c57,Zo,h',c1,ZWi,ZWh]
 |true=>
 cases c2:(d.br != 0)with
 |true=>simp only[go_sem,c57,Zo,h',c1,c2,ZWg,ZWf,ZWj,ZWt]
 |false=>
 cases c5003:decide (Y1 s d.Fa>=0)with
 |false=>simp only[go_sem,c57,Zo,h',c1,c2,hb,ht,c5003,ZWg,ZWi,ZWf,ZWj,ZWt]
 |true=>
 cases c5004:decide (ZL s d.Ev>=0)with
 |false=>simp only[go_sem,c57,Zo,h',c1,c2,hb,ht,c5003,c5004,ZWg,ZWi,ZWf,ZWj,ZWt]
 |true=>
 unfold exD;cases c5005:(d.Ld==-1)with
 |false=>
  have c5':(d.Ld != -1)=true:=by rw[bne,c5005];rfl
  simp only[go_sem,c57,Zo,h',c1,c2,hb,ht,c5003,c5004,c5',ZWg,ZWi,ZWf,ZWh,ZX8]
 |true=>
  have c5':(d.Ld != -1)=false:=by rw[bne,c5005];rfl
  obtain⟨j,x,hj,hx⟩:=ZPY _ s.By c5003;obtain⟨k,y,hk,hy⟩:=ZPY _ s.Gr c5004;have hjb:Y1 s d.Fa=(j:Int):=hj;have hks:ZL s d.Ev=(k:Int):=hk;have e1:WL s (j:Int)=x.Ld:=by unfold WL;rw[ZYO,hx]
  have e2:QF s (k:Int)=y.Ld:=by unfold QF;rw[ZYO,hy]
  have g1:=Z6 (f:=Fa.enc) hx;have g2:=Z6 (f:=Ev.enc) hy;rw[hjb]at hb c5003;rw[hks]at ht c5004;rw[hjb,hks,e1,e2];have q1:(x.Ld != -1) = !(x.Ld==-1):=rfl;have q2:(y.Ld != -1) = !(y.Ld==-1):=rfl;cases c5006:(x.Ld==-1)with
  |false=>simp only[go_sem,c57,Zo,h',c1,c2,hb,ht,c5003,c5004,c5',g1,Fa.enc,q1,q2,c5006,ZWg,ZWi,ZWf,ZWh,ZWj,ZWt]
  |true=>cases c5007:(y.Ld==-1)<;>simp only[go_sem,c57,Zo,h',c1,c2,hb,ht,c5003,c5004,c5',g1,g2,Fa.enc,Ev.enc,q1,q2,c5006,c5007,ZWg,ZWi,ZWf,ZWh,ZWj,ZWt,ZX8]
def prS(l:List Str)(k:Nat)(x:Str):Bool:=(l.take k).all (λy=>!Z3 y x)
def afS(s:Sta)(i:Int)(l:List Str)(k:Nat)(x:Str):Bool:=!decide (Zn s x<=i)&&prS l k x
def ZS6(v:AV)(hv:∀n,bel n v=true)(i:Int)(d:Gc)(hd:DoS d)(k:Nat)(x:Str)(hx:d.After.l[k]?=some x):∃fr',Zg rE [1,2,5,6,7,8] c56L0b [(1,I i),(2,v),(5,.ptr 0 0 0 1),(6,I d.After.l.length),(7,I k),(8,.int .i64 0)] [.row 16 [Zo d]] =
 some (if prS d.After.l k x=true then .exit 2 else .ret,fr',[.row 16 [Zo d]])/\
 (prS d.After.l k x=true->get fr' 1=I i/\get fr' 2=v/\get fr' 5=.ptr 0 0 0 1/\get fr' 6=I d.After.l.length/\get fr' 7=I k)/\(prS d.After.l k x=false->get fr' 4=.bool false):=by
 have hgx:=Z6 (f:=encS) hx;have hli:=Z7 hx;have hl:=hd.after;have L:=QT (E:=rE) (live:=[1,2,5,6,7,8]) (b:=c56L0b) (h:=[.row 16 [Zo d]]) (d.After.l.take k) (λ_ y=>!Z3 y x) (λj=>[(1,I i),(2,v),(5,.ptr 0 0 0 1),(6,I d.After.l.length),(7,I k),(8,I j)]) 2
  (λfr=>get fr 1=I i/\get fr 2=v/\get fr 5=.ptr 0 0 0 1/\get fr 6=I d.After.l.length/\get fr 7=I k) (λfr=>get fr 4=.bool false) (λk=>rfl)
  (λj y hy hP=>by
   obtain⟨hy',hk⟩:=HH hy;have hgy:=Z6 (f:=encS) hy';have hlt:=Zh hk;have hw:=Zx (n:=j)<|by omega
   have hP':Z3 y x=false:=by simpa using hP
   refine⟨_,by simp only[go_sem,c56L0b,Zo,hv,hgx,hgy,hlt,hw,encS,hP'];rfl,?_⟩
   simp only[go_sem])
  (λj y hy hP=>by
   obtain⟨hy',hk⟩:=HH hy;have hgy:=Z6 (f:=encS) hy';have hlt:=Zh hk;have hP':Z3 y x=true:=by simpa using hP
   refine⟨_,by simp only[go_sem,c56L0b,Zo,hv,hgx,hgy,hlt,encS,hP'];rfl,?_⟩
   simp only[go_sem])
  (by
   have e:(d.After.l.take k).length=k:=by rw[ZWS];omega
   rw[e];exact⟨_,by simp only[go_sem,c56L0b,hv,ZG];rfl,by simp only[go_sem],by simp only[go_sem],by simp only[go_sem],by simp only[go_sem],by simp only[go_sem]⟩)
 rw[QE]at L;exact L
def ZU7(s:Sta)(hs:StS s)(i:Int)(d:Gc)(hd:DoS d):∃fr',Zg rE [1,2,5,6,7] c56L1b [(1,I i),(2,stI s),(5,.ptr 0 0 0 1),(6,I d.After.l.length),(7,.int .i64 0)] [.row 16 [Zo d]] =
 some (if Zu (afS s i d.After.l) 0 d.After.l=true then .exit 0 else .ret,fr',[.row 16 [Zo d]])/\
 (Zu (afS s i d.After.l) 0 d.After.l=true->get fr' 5=.ptr 0 0 0 1/\get fr' 6=I d.After.l.length)/\(Zu (afS s i d.After.l) 0 d.After.l=false->get fr' 4=.bool false):=by
 have hl:=hd.after;exact QT (E:=rE) (live:=[1,2,5,6,7]) (b:=c56L1b) (h:=[.row 16 [Zo d]]) d.After.l (afS s i d.After.l) (λj=>[(1,I i),(2,stI s),(5,.ptr 0 0 0 1),(6,I d.After.l.length),(7,I j)]) 0
  (λfr=>get fr 5=.ptr 0 0 0 1/\get fr 6=I d.After.l.length) (λfr=>get fr 4=.bool false) (λk=>rfl)
  (λk x hx hP=>by
   have hg:=Z6 (f:=encS) hx;have hlt:=Zh<|Z7 hx;have hw:=Zx (n:=k) (by have:=Z7 hx;omega)
   obtain⟨fr',h1,h2,_⟩:=ZS6 (stI s) (λn=>rfl) i d hd k x hx
   have hf:=ZPz s hs x;unfold afS at hP;rw[ZWe,ZWD]at hP;rw[hP.2]at h1;obtain⟨g1,g2,g5,g6,g7⟩:=h2 hP.2;refine⟨_,by simp only[go_sem,c56L1b,c56L0,Zo,hg,hlt,hw,encS,hf,hP.1,if_true];rw[show(AV.agg [.str d.Id,.str d.Fa,.str d.Ev,I d.bg,I d.An.N,.str d.An.bk,I d.An.Num,I d.An.Den,I d.bf.X,I d.bf.Y,I d.From,I d.Ld,.isl false d.After.ex 1<|d.After.l.map encS,I d.Why,I d.br,.str d.Veil])=Zo d from rfl,h1];simp only[go_sem,hw,g1,g2,g5,g6,g7,if_true];rfl,?_⟩
   simp only[go_sem])
  (λk x hx hP=>by
   have hg:=Z6 (f:=encS) hx;have hlt:=Zh<|Z7 hx;obtain⟨fr',h1,_,h2⟩:=ZS6 (stI s) (λn=>rfl) i d hd k x hx
   have hf:=ZPz s hs x;unfold afS at hP;cases c:decide (Zn s x<=i)with
   |true=>
    refine⟨_,by simp only[go_sem,c56L1b,Zo,hg,hlt,encS,hf,c];rfl,?_⟩
    simp only[go_sem]
   |false=>
    rw[c,ZWi,ZWf]at hP;rw[hP]at h1;refine⟨_,by simp only[go_sem,c56L1b,c56L0,Zo,hg,hlt,encS,hf,c,if_true];rw[show(AV.agg [.str d.Id,.str d.Fa,.str d.Ev,I d.bg,I d.An.N,.str d.An.bk,I d.An.Num,I d.An.Den,I d.bf.X,I d.bf.Y,I d.From,I d.Ld,.isl false d.After.ex 1<|d.After.l.map encS,I d.Why,I d.br,.str d.Veil])=Zo d from rfl,h1];simp only[go_sem,ZWn,if_false];rfl,?_⟩
    simp only[go_sem,h2 hP])
  (⟨_,by simp only[go_sem,c56L1b,ZG];rfl,by simp only[go_sem],by simp only[go_sem]⟩)
def ZPr(d:Gc):Bool:=
 bif d.Ld==-1 then(Yf d==0&&d.Why==0)else bif d.Why==12 then Yf d==0 else bif !Z3 d.Veil emp then false else
  ((d.Why==11&&Yf d==0)||((d.Why==9&&decide (Yf d>=2))&&decide (Yf d<=8)))||(d.Why==10&&Yf d==1)
def ZS7(s:Sta)(hs:StS s)(i:Nat)(d:Gc)(hx:s.Bc[i]?=some d)(hd:DoS d):pfn rE 56 [stA s,I i]=some (.bool<|Zu (afS s i d.After.l) 0 d.After.l&&ZPr d):=by
 obtain⟨fr',h1,h2,h3⟩:=ZU7 s hs i d hd;have hg:=Z6 (f:=Gc.enc) hx;have hda:Gc.enc d=Zo d:=rfl;rw[hda]at hg;rw[Z5 (f:=56) rfl rfl];cases hc:Zu (afS s i d.After.l) 0 d.After.l with
 |false=>
  rw[hc]at h1;have g4:=h3 hc;unfold Zo at h1 hg;simp only[go_sem,c56,c56L1,hg,ZWd,h1,g4,ZWh,ZWn]
 |true=>
  rw[hc]at h1;obtain⟨g5,g6⟩:=h2 hc;unfold Zo at h1 hg;unfold ZPr;have en:(d.After.l.length:Int)=Yf d:=rfl;rw[en]at h1 g6;cases c1:(d.Ld==-1)with
  |true=>cases c2:(Yf d==0)<;>simp only[go_sem,c56,c56L1,hg,ZWd,en,h1,g5,g6,c1,c2,ZWh,ZWf]
  |false=>
  cases c5003:(d.Why==12)with
  |true=>simp only[go_sem,c56,c56L1,hg,ZWd,en,h1,g5,g6,c1,c5003,ZWf]
  |false=>
  have nv:∀x:Str,(!Z3 x emp) = !Z3 x emp:=λ_=>rfl
  cases c5004:Z3 d.Veil emp with
  |false=>simp only[go_sem,c56,c56L1,hg,ZWd,en,h1,g5,g6,c1,c5003,c5004,ZWi,ZWm]
  |true=>
  cases c5005:(d.Why==11)with
  |true=>
   have e:=eq_of_beq c5005;have c5007:(d.Why==9)=false:=by rw[e];rfl
   have c22:(d.Why==10)=false:=by rw[e];rfl
   cases c5006:(Yf d==0)<;>simp only[go_sem,c56,c56L1,hg,ZWd,en,h1,g5,g6,c1,c5003,c5004,c5005,c5006,c5007,c22,ZWg,ZWf,ZWh,ZWk,ZWm,ZWj,ZWt,ZWl,ZWp]
  |false=>
  cases c5007:(d.Why==9)with
  |true=>
   have e:=eq_of_beq c5007;have c22:(d.Why==10)=false:=by rw[e];rfl
   cases c5008:decide (Yf d>=2)with
   |false=>simp only[go_sem,c56,c56L1,hg,ZWd,en,h1,g5,g6,c1,c5003,c5004,c5005,c5007,c5008,c22,ZWg,ZWf,ZWh,ZWk,ZWm,ZWj,ZWt,ZWl,ZWp]
   |true=>cases c45:decide (Yf d<=8)<;>simp only[go_sem,c56,c56L1,hg,ZWd,en,h1,g5,g6,c1,c5003,c5004,c5005,c5007,c5008,c45,c22,ZWg,ZWf,ZWh,ZWk,ZWm,ZWj,ZWt,ZWl,ZWp]
  |false=>
  cases c22:(d.Why==10)with
  |false=>simp only[go_sem,c56,c56L1,hg,ZWd,en,h1,g5,g6,c1,c5003,c5004,c5005,c5007,c22,ZWg,ZWf,ZWh,ZWk,ZWm,ZWj,ZWt,ZWl,ZWp]
  |true=>cases c5011:(Yf d==1)<;>simp only[go_sem,c56,c56L1,hg,ZWd,en,h1,g5,g6,c1,c5003,c5004,c5005,c5007,c22,c5011,ZWg,ZWf,ZWh,ZWk,ZWm,ZWj,ZWt,ZWl,ZWp]
def ZS8:∀(l K:List Str),pwD Z3 K l=true↔l.Nodup/\∀x∈l,x ∉ K
 |[],K=>by simp[pwD]
 |x::r,K=>by
  have ha:K.any (Z3 x)=true↔x∈K:=by
   rw[ZYl];exact⟨λ⟨y,h1,h2⟩=>by rw[(Ky _ _).1 h2];exact h1,λh=>⟨x,h,ZOM x⟩⟩
  unfold pwD;rw[ZWe,ZWD,ZS8 r<|K++[x],ZXs];have hb:K.any (Z3 x)=false↔x ∉ K:=by rw[<-ha];simp
  rw[hb];constructor
  .rintro⟨h1,h2,h3⟩;refine⟨⟨λh=>h3 x h (by simp),h2⟩,?_⟩
   intro y hy;rcases ZWF.1 hy with rfl|hy
   .exact h1
   .exact λh=>h3 y hy<|ZXV _ h
  .rintro⟨⟨h1,h2⟩,h3⟩;refine⟨h3 x (by simp),h2,?_⟩
   intro y hy h;rcases ZX3.1 h with h|h
   .exact h3 y (by simp[hy]) h
   .rw[ZX2]at h;subst h;exact h1 hy
def ZU8(l:List Str):XH Z3 l=true↔l.Nodup:=by
 unfold XH;have h:=(ZPT Z3 l []).2;rw[ZWN,ZWr,ZS8]at h;rw[beq_iff_eq];rw[show(((l.foldl (Qi Z3) []).length:Nat):Int)=(l.length:Int)↔(l.foldl (Qi Z3) []).length=l.length from by omega,h]
 simp
def ZS9(l:List Str):XH Z3 l=Jq l:=by
 rw[ZWI,ZU8,Zdk]
def ZU9(s:Sta)(i:Int)(d:Gc):Zu (afS s i d.After.l) 0 d.After.l=(K8 s i d&&Jq d.After.l):=by
 have e:∀k x,afS s i d.After.l k x=(!decide (Zn s x<=i)&&!(d.After.l.take k).any (Z3 x)):=λk x=>by
  unfold afS prS;rw[ZPo];congr 1;apply ZOu;intro y _;rw[ZOv]
 rw[ZPc d.After.l 0 e,ZPb,<-ZPy,ZS9,QE<|λx=>!decide (Zn s x<=i)]
 rfl
def ZUa(d:Gc):ZPr d = !((((!(exD d==(d.Why==0)))||(exD d&&decide (Yf d>0)))||(!exD d&&!He d))):=by
 have hn:0<=Yf d:=by unfold Yf;omega
 have hp:decide (Yf d>0) = !(Yf d==0):=by
  rw[ZWI,decide_eq_true_eq,ZWD,beq_eq_false_iff_ne];omega
 unfold ZPr He exD ZD;rw[hp];cases c1:(d.Ld==-1)with
 |true=>cases(Yf d==0)<;>cases(d.Why==0)<;>rfl
 |false=>
 by_cases e12:d.Why=12
 .rw[e12];cases(Yf d==0)<;>rfl
 by_cases e11:d.Why=11
 .rw[e11];cases(Yf d==0)<;>cases Z3 d.Veil emp<;>rfl
 by_cases e9:d.Why=9
 .rw[e9];cases decide (Yf d>=2)<;>cases decide (Yf d<=8)<;>cases Z3 d.Veil emp<;>rfl
 by_cases e10:d.Why=10
 .rw[e10];cases(Yf d==1)<;>cases Z3 d.Veil emp<;>rfl
 have q12:(d.Why==12)=false:=beq_eq_false_iff_ne.2 e12;have q11:(d.Why==11)=false:=beq_eq_false_iff_ne.2 e11;have q9:(d.Why==9)=false:=beq_eq_false_iff_ne.2 e9;have q10:(d.Why==10)=false:=beq_eq_false_iff_ne.2 e10;rw[q12,q11,q9,q10];cases(d.Why==0)<;>cases Z3 d.Veil emp<;>simp
def ZOO(s:Sta)(i:Nat)(d:Gc):Bool:=ZD d.bg 0 63&&(ZD d.Ld (-1) 100000&&(ZD d.From 0 100000&&((Zu (afS s i d.After.l) 0 d.After.l&&ZPr d)&&(bif Z3 d.Veil emp then ZP0 s d else ZON d))))
def ZUb(s:Sta)(i:Nat)(d:Gc):ZOO s i d=Vr s i d:=by
 unfold ZOO Vr Hg QM UC;rw[ZU9,ZUa,ZU6];unfold ZP0;generalize(((!(exD d==(d.Why==0)))||(exD d&&decide (Yf d>0)))||(!exD d&&!He d))=b;cases ZD d.bg 0 63<;>cases ZD d.Ld (-1) 100000<;>cases ZD d.From 0 100000<;>cases K8 s i d<;>cases Jq d.After.l<;>cases b<;>cases Z3 d.Veil emp<;>simp[ZYI]
def twD(a b:Gc):Bool:=Z3 a.Veil emp&&(Z3 b.Veil emp&&((a.Ld==-1)&&((b.Ld==-1)&&(Z3 a.Ev b.Ev&&QL a.An b.An))))
def ZP1(l:List Gc)(i:Nat)(x:Gc):Bool:=(l.take i).all (λy=>!twD x y)
def ZSa(s:Sta)(hs:StS s)(i:Nat)(x:Gc)(hx:s.Bc[i]?=some x):∃fr',Zg rE [1,3,4] c52L0b [(1,stI s),(3,I i),(4,.int .i64 0)] [] =
 some (if ZP1 s.Bc i x=true then .exit 2 else .ret,fr',[])/\
 (ZP1 s.Bc i x=true->get fr' 1=stI s/\get fr' 3=I i)/\(ZP1 s.Bc i x=false->get fr' 2=.bool false):=by
 have hgx:=Z6 (f:=Gc.enc) hx;have hli:=Z7 hx;have hl:=hs.doors;rw[show Gc.enc x=Zo x from rfl]at hgx
 have L:=QT (E:=rE) (live:=[1,3,4]) (b:=c52L0b) (h:=[]) (s.Bc.take i) (λ_ y=>!twD x y) (λj=>[(1,stI s),(3,I i),(4,I j)]) 2
  (λfr=>get fr 1=stI s/\get fr 3=I i) (λfr=>get fr 2=.bool false) (λk=>rfl)
  (λj y hy hP=>by
   obtain⟨hy',hk⟩:=HH hy;have hgy:=Z6 (f:=Gc.enc) hy';rw[show Gc.enc y=Zo y from rfl]at hgy
   have hlt:=Zh hk;have hw:=Zx (n:=j)<|by omega
   have hP':twD x y=false:=by simpa using hP
   unfold twD at hP';have hh:(x.An.N==y.An.N&&(Z3 x.An.bk y.An.bk&&(x.An.Num==y.An.Num&&x.An.Den==y.An.Den)))=QL x.An y.An:=rfl;unfold Zo at hgx hgy;cases c1:Z3 x.Veil emp with
   |false=>
    refine⟨_,by simp only[go_sem,c52L0b,hgx,hgy,hlt,hw,c1];rfl,?_⟩
    simp only[go_sem]
   |true=>
   cases c2:Z3 y.Veil emp with
   |false=>
    refine⟨_,by simp only[go_sem,c52L0b,hgx,hgy,hlt,hw,c1,c2];rfl,?_⟩
    simp only[go_sem]
   |true=>
   cases c5003:(x.Ld==-1)with
   |false=>
    refine⟨_,by simp only[go_sem,c52L0b,hgx,hgy,hlt,hw,c1,c2,c5003];rfl,?_⟩
    simp only[go_sem]
   |true=>
   cases c5004:(y.Ld==-1)with
   |false=>
    refine⟨_,by simp only[go_sem,c52L0b,hgx,hgy,hlt,hw,c1,c2,c5003,c5004];rfl,?_⟩
    simp only[go_sem]
   |true=>
   cases c5005:Z3 x.Ev y.Ev with
   |false=>
    refine⟨_,by simp only[go_sem,c52L0b,hgx,hgy,hlt,hw,c1,c2,c5003,c5004,c5005];rfl,?_⟩
    simp only[go_sem]
   |true=>
    rw[c1,c2,c5003,c5004,c5005,ZWf,ZWf,ZWf,ZWf,ZWf]at hP';refine⟨_,by simp only[go_sem,c52L0b,hgx,hgy,hlt,hw,c1,c2,c5003,c5004,c5005,hh,hP'];rfl,?_⟩
    simp only[go_sem])
  (λj y hy hP=>by
   obtain⟨hy',hk⟩:=HH hy;have hgy:=Z6 (f:=Gc.enc) hy';rw[show Gc.enc y=Zo y from rfl]at hgy
   have hlt:=Zh hk;have hP':twD x y=true:=by simpa using hP
   unfold twD at hP';simp only[ZWe]at hP';obtain⟨c1,c2,c5003,c5004,c5005,c5006⟩:=hP';have hh:(x.An.N==y.An.N&&(Z3 x.An.bk y.An.bk&&(x.An.Num==y.An.Num&&x.An.Den==y.An.Den)))=QL x.An y.An:=rfl;unfold Zo at hgx hgy;refine⟨_,by simp only[go_sem,c52L0b,hgx,hgy,hlt,c1,c2,c5003,c5004,c5005,hh,c5006];rfl,?_⟩
   simp only[go_sem])
  (by
   have e:(s.Bc.take i).length=i:=by rw[ZWS];omega
   rw[e];exact⟨_,by simp only[go_sem,c52L0b,ZG];rfl,by simp only[go_sem],by simp only[go_sem]⟩)
 rw[QE]at L;exact L
def ZUc(s:Sta)(hs:StS s):pfn rE 52 [stA s]=some (.bool<|Zu (ZP1 s.Bc) 0 s.Bc):=by
 have hl:=hs.doors;have L:=Uf (E:=rE) (live:=[1,3]) (b:=c52L1b) (h:=[]) s.Bc (ZP1 s.Bc) (λi=>[(1,stI s),(3,I i)]) 0 (λfr=>get fr 2=.bool false) (λk=>rfl)
  (λi x hx hP=>by
   have hlt:=Zh<|Z7 hx;have hw:=Zx (n:=i) (by have:=Z7 hx;omega)
   obtain⟨fr',h1,h2,_⟩:=ZSa s hs i x hx;rw[hP]at h1;obtain⟨g1,g3⟩:=h2 hP;refine⟨_,by simp only[go_sem,c52L1b,c52L0,hlt,hw,h1,g1,g3,ZWd,if_true];rfl,?_⟩
   simp only[go_sem])
  (λi x hx hP=>by
   have hlt:=Zh<|Z7 hx;obtain⟨fr',h1,_,h2⟩:=ZSa s hs i x hx;rw[hP]at h1;refine⟨_,by simp only[go_sem,c52L1b,c52L0,hlt,h1,ZWd,ZWn,if_false];rfl,?_⟩
   simp only[go_sem,h2 hP])
  (⟨_,by simp only[go_sem,c52L1b,ZG,ZWd];rfl⟩)
 obtain⟨fr',h1,h2⟩:=L;have h1':Zg rE [1,3] c52L1b [(1,stI s),(3,.int .i64 0)] []=_:=h1;rw[Z5 (f:=52) rfl rfl];cases hc:Zu (ZP1 s.Bc) 0 s.Bc with
 |false=>rw[hc]at h1';simp only[go_sem,c52,c52L1,h1',h2 hc,ZWn]
 |true=>rw[hc]at h1';simp only[go_sem,c52,c52L1,h1']
def ZUd(l:List Gc)(a:Adr)(hr:∀x y,XK x y=true↔x=y):∀K:List Adr,(l.foldl Hd K).any (XK a)=(K.any (XK a)||l.any (λy=>!Jr y&&XK a (WI y))):=by
 induction l with
 |nil=>intro K;simp
 |cons x r ih=>
  intro K;rw[ZXb,ih,ZWR,<-Bool.or_assoc];congr 1;unfold Hd;cases hs:Jr x with
  |true=>simp
  |false=>
   rw[cond_false];unfold Qi;cases hk:K.any (XK<|WI x)with
   |true=>
    rw[cond_true];cases he:XK a (WI x)with
    |false=>simp
    |true=>rw[(hr _ _).1 he,hk];simp
   |false=>rw[cond_false,ZYk];simp
def Zil(x y:Adr):XK x y=true↔x=y:=by
 unfold XK;cases x with|mk s n=>cases n with|mk a b c d=>cases y with|mk s' n'=>cases n' with|mk a' b' c' d'=>
 simp only[ZWe,beq_iff_eq,Ky,Adr.mk.injEq,HN.mk.injEq]
def ZUe(l:List Gc):Zu (ZP1 l) 0 l=Wh l:=by
 unfold Wh;apply ZPc;intro i x;unfold ZP1 Y9;rw[ZUd _ _ Zil,ZWY,ZWl,<-ZPo];have e:∀y,twD x y=(!Jr x&&(!Jr y&&XK (WI x) (WI y))):=λy=>by
  unfold twD Jr XK WI QL;simp only[bne,Bool.not_or,ZYu];cases Z3 x.Veil emp<;>cases Z3 y.Veil emp<;>cases(x.Ld==-1)<;>cases(y.Ld==-1)<;>rfl
 have e2:(l.take i).any (twD x)=(l.take i).any (λy=>!Jr x&&(!Jr y&&XK (WI x) (WI y))):=by
  congr 1;funext y;exact e y
 rw[e2];cases Jr x with
 |true=>simp
 |false=>simp
def ZUf(s:Sta)(K:List Str)(hl:s.Ga.length<=1000)(hK:K.length<=10000):∃fr',Zg rE [1,3,4] c50L0b [(1,stI s),(3,.sl 0 K.length 0 K.length false),(4,.int .i64 0)] [.row 1<|K.map encS] =
 some (.exit 0,fr',[.row 1 ((K++s.Ga.map (·.Id)).map encS)])/\get fr' 1=stI s/\get fr' 3=.sl 0 (K.length+s.Ga.length) 0 (K.length+s.Ga.length) false:=by
 have hbS:∀n(K:List Str),Zd n (K.map encS)=true:=λn K=>ZN _<|Zw (λt=>rfl) K
 have L:=Y8 (E:=rE) (live:=[1,3,4]) (b:=c50L0b) s.Ga.length (λi=>[(1,stI s),(3,.sl 0 (K.length+i) 0 (K.length+i) false),(4,I i)])
  (λi=>[.row 1 ((K++(s.Ga.take i).map (·.Id)).map encS)]) (λi=>rfl)
  (λi hi=>by
   obtain⟨x,hx⟩:∃x,s.Ga[i]?=some x:=⟨_,ZWq hi⟩;have hg:=Z6 (f:=Gm.enc) hx;have hi':=Zh hi;have hw:=Zx (n:=i)<|by omega
   have ht:=YW (λx:Gm=>x.Id) hx
   have hn:(K++(s.Ga.take i).map (·.Id)).length=K.length+i:=by rw[ZWx,ZWd,take_len hx]
   have e1:(K++(s.Ga.take<|i+1).map (·.Id)).map encS=(K++(s.Ga.take i).map (·.Id)).map encS++[.str x.Id]:=by
    rw[ht,<-ZWU,ZWC];rfl
   rw[e1];generalize K++(s.Ga.take i).map (·.Id)=KS at hn⊢;rw[<-hn,<-ZXd,<-hn];have ha:=λq=>XC (h:=[.row 1<|KS.map encS,q]) (fz:=false) (b:=0) (g:=KS.length) (sz:=1) (es:=KS.map encS) (bw:=false) (ex:=false) (ys:=[.str x.Id]) (bytes:=16) (by simp[rowAt]) rfl (by rfl) (by omega) (by omega) (by simp;omega)
   have hb:=XC (h:=[.row 1<|KS.map encS]) (fz:=false) (b:=0) (g:=KS.length) (sz:=1) (es:=KS.map encS) (bw:=false) (ex:=false) (ys:=[.str x.Id]) (bytes:=16) (by simp[rowAt]) rfl (by rfl) (by omega) (by omega) (by simp;omega)
   refine⟨_,by simp only[go_sem,c50L0b,hg,hi',hw,Gm.enc,NL.enc,ha,hb,beq_self_eq_true,hbS,ZWd];rfl,?_⟩
   simp only[go_sem])
  (e:=.exit 0) (by simp only[go_sem,c50L0b,ZG,ZWL,ZWd];rfl) (by simp)
 have e0:K++(s.Ga.take 0).map (λx:Gm=>x.Id)=K:=by simp
 rw[e0]at L;refine⟨_,L,?_,?_⟩<;>simp only[go_sem]
def ZUg(s:Sta)(K:List Str)(hl:s.Gr.length<=1000)(hK:K.length<=10000):∃fr',Zg rE [1,3,5] c50L1b [(1,stI s),(3,.sl 0 K.length 0 K.length false),(5,.int .i64 0)] [.row 1<|K.map encS] =
 some (.exit 2,fr',[.row 1 ((K++s.Gr.map (·.Id)).map encS)])/\get fr' 1=stI s/\get fr' 3=.sl 0 (K.length+s.Gr.length) 0 (K.length+s.Gr.length) false:=by
 have hbS:∀n(K:List Str),Zd n (K.map encS)=true:=λn K=>ZN _<|Zw (λt=>rfl) K
 have L:=Y8 (E:=rE) (live:=[1,3,5]) (b:=c50L1b) s.Gr.length (λi=>[(1,stI s),(3,.sl 0 (K.length+i) 0 (K.length+i) false),(5,I i)])
  (λi=>[.row 1 ((K++(s.Gr.take i).map (·.Id)).map encS)]) (λi=>rfl)
  (λi hi=>by
   obtain⟨x,hx⟩:∃x,s.Gr[i]?=some x:=⟨_,ZWq hi⟩;have hg:=Z6 (f:=Ev.enc) hx;have hi':=Zh hi;have hw:=Zx (n:=i)<|by omega
   have ht:=YW (λx:Ev=>x.Id) hx
   have hn:(K++(s.Gr.take i).map (·.Id)).length=K.length+i:=by rw[ZWx,ZWd,take_len hx]
   have e1:(K++(s.Gr.take<|i+1).map (·.Id)).map encS=(K++(s.Gr.take i).map (·.Id)).map encS++[.str x.Id]:=by
    rw[ht,<-ZWU,ZWC];rfl
   rw[e1];generalize K++(s.Gr.take i).map (·.Id)=KS at hn⊢;rw[<-hn,<-ZXd,<-hn];have ha:=λq=>XC (h:=[.row 1<|KS.map encS,q]) (fz:=false) (b:=0) (g:=KS.length) (sz:=1) (es:=KS.map encS) (bw:=false) (ex:=false) (ys:=[.str x.Id]) (bytes:=16) (by simp[rowAt]) rfl (by rfl) (by omega) (by omega) (by simp;omega)
   have hb:=XC (h:=[.row 1<|KS.map encS]) (fz:=false) (b:=0) (g:=KS.length) (sz:=1) (es:=KS.map encS) (bw:=false) (ex:=false) (ys:=[.str x.Id]) (bytes:=16) (by simp[rowAt]) rfl (by rfl) (by omega) (by omega) (by simp;omega)
   refine⟨_,by simp only[go_sem,c50L1b,hg,hi',hw,Ev.enc,NL.enc,ha,hb,beq_self_eq_true,hbS,ZWd];rfl,?_⟩
   simp only[go_sem])
  (e:=.exit 2) (by simp only[go_sem,c50L1b,ZG,ZWL,ZWd];rfl) (by simp)
 have e0:K++(s.Gr.take 0).map (λx:Ev=>x.Id)=K:=by simp
 rw[e0]at L;refine⟨_,L,?_,?_⟩<;>simp only[go_sem]
def ZUh(s:Sta)(K:List Str)(hl:s.By.length<=1000)(hK:K.length<=10000):∃fr',Zg rE [1,3,6] c50L2b [(1,stI s),(3,.sl 0 K.length 0 K.length false),(6,.int .i64 0)] [.row 1<|K.map encS] =
 some (.exit 4,fr',[.row 1 ((K++s.By.map (·.Id)).map encS)])/\get fr' 1=stI s/\get fr' 3=.sl 0 (K.length+s.By.length) 0 (K.length+s.By.length) false:=by
 have hbS:∀n(K:List Str),Zd n (K.map encS)=true:=λn K=>ZN _<|Zw (λt=>rfl) K
 have L:=Y8 (E:=rE) (live:=[1,3,6]) (b:=c50L2b) s.By.length (λi=>[(1,stI s),(3,.sl 0 (K.length+i) 0 (K.length+i) false),(6,I i)])
  (λi=>[.row 1 ((K++(s.By.take i).map (·.Id)).map encS)]) (λi=>rfl)
  (λi hi=>by
   obtain⟨x,hx⟩:∃x,s.By[i]?=some x:=⟨_,ZWq hi⟩;have hg:=Z6 (f:=Fa.enc) hx;have hi':=Zh hi;have hw:=Zx (n:=i)<|by omega
   have ht:=YW (λx:Fa=>x.Id) hx
   have hn:(K++(s.By.take i).map (·.Id)).length=K.length+i:=by rw[ZWx,ZWd,take_len hx]
   have e1:(K++(s.By.take<|i+1).map (·.Id)).map encS=(K++(s.By.take i).map (·.Id)).map encS++[.str x.Id]:=by
    rw[ht,<-ZWU,ZWC];rfl
   rw[e1];generalize K++(s.By.take i).map (·.Id)=KS at hn⊢;rw[<-hn,<-ZXd,<-hn];have ha:=λq=>XC (h:=[.row 1<|KS.map encS,q]) (fz:=false) (b:=0) (g:=KS.length) (sz:=1) (es:=KS.map encS) (bw:=false) (ex:=false) (ys:=[.str x.Id]) (bytes:=16) (by simp[rowAt]) rfl (by rfl) (by omega) (by omega) (by simp;omega)
   have hb:=XC (h:=[.row 1<|KS.map encS]) (fz:=false) (b:=0) (g:=KS.length) (sz:=1) (es:=KS.map encS) (bw:=false) (ex:=false) (ys:=[.str x.Id]) (bytes:=16) (by simp[rowAt]) rfl (by rfl) (by omega) (by omega) (by simp;omega)
   refine⟨_,by simp only[go_sem,c50L2b,hg,hi',hw,Fa.enc,NL.enc,ha,hb,beq_self_eq_true,hbS,ZWd];rfl,?_⟩
   simp only[go_sem])
  (e:=.exit 4) (by simp only[go_sem,c50L2b,ZG,ZWL,ZWd];rfl) (by simp)
 have e0:K++(s.By.take 0).map (λx:Fa=>x.Id)=K:=by simp
 rw[e0]at L;refine⟨_,L,?_,?_⟩<;>simp only[go_sem]
def ZUi(s:Sta)(K:List Str)(hl:s.Bc.length<=1000)(hK:K.length<=10000):∃fr',Zg rE [1,3,7] c50L3b [(1,stI s),(3,.sl 0 K.length 0 K.length false),(7,.int .i64 0)] [.row 1<|K.map encS] =
 some (.exit 6,fr',[.row 1 ((K++s.Bc.map (·.Id)).map encS)])/\get fr' 1=stI s/\get fr' 3=.sl 0 (K.length+s.Bc.length) 0 (K.length+s.Bc.length) false:=by
 have hbS:∀n(K:List Str),Zd n (K.map encS)=true:=λn K=>ZN _<|Zw (λt=>rfl) K
 have L:=Y8 (E:=rE) (live:=[1,3,7]) (b:=c50L3b) s.Bc.length (λi=>[(1,stI s),(3,.sl 0 (K.length+i) 0 (K.length+i) false),(7,I i)])
  (λi=>[.row 1 ((K++(s.Bc.take i).map (·.Id)).map encS)]) (λi=>rfl)
  (λi hi=>by
   obtain⟨x,hx⟩:∃x,s.Bc[i]?=some x:=⟨_,ZWq hi⟩;have hg:=Z6 (f:=Gc.enc) hx;have hi':=Zh hi;have hw:=Zx (n:=i)<|by omega
   have ht:=YW (λx:Gc=>x.Id) hx
   have hn:(K++(s.Bc.take i).map (·.Id)).length=K.length+i:=by rw[ZWx,ZWd,take_len hx]
   have e1:(K++(s.Bc.take<|i+1).map (·.Id)).map encS=(K++(s.Bc.take i).map (·.Id)).map encS++[.str x.Id]:=by
    rw[ht,<-ZWU,ZWC];rfl
   rw[e1];generalize K++(s.Bc.take i).map (·.Id)=KS at hn⊢;rw[<-hn,<-ZXd,<-hn];have ha:=λq=>XC (h:=[.row 1<|KS.map encS,q]) (fz:=false) (b:=0) (g:=KS.length) (sz:=1) (es:=KS.map encS) (bw:=false) (ex:=false) (ys:=[.str x.Id]) (bytes:=16) (by simp[rowAt]) rfl (by rfl) (by omega) (by omega) (by simp;omega)
   have hb:=XC (h:=[.row 1<|KS.map encS]) (fz:=false) (b:=0) (g:=KS.length) (sz:=1) (es:=KS.map encS) (bw:=false) (ex:=false) (ys:=[.str x.Id]) (bytes:=16) (by simp[rowAt]) rfl (by rfl) (by omega) (by omega) (by simp;omega)
   refine⟨_,by simp only[go_sem,c50L3b,hg,hi',hw,Gc.enc,NL.enc,ha,hb,beq_self_eq_true,hbS,ZWd];rfl,?_⟩
   simp only[go_sem])
  (e:=.exit 6) (by simp only[go_sem,c50L3b,ZG,ZWL,ZWd];rfl) (by simp)
 have e0:K++(s.Bc.take 0).map (λx:Gc=>x.Id)=K:=by simp
 rw[e0]at L;refine⟨_,L,?_,?_⟩<;>simp only[go_sem]
def ZUj(s:Sta)(K:List Str)(hl:s.Nk.length<=1000)(hK:K.length<=10000):∃fr',Zg rE [1,3,8] c50L4b [(1,stI s),(3,.sl 0 K.length 0 K.length false),(8,.int .i64 0)] [.row 1<|K.map encS] =
 some (.exit 8,fr',[.row 1 ((K++s.Nk.map (·.Id)).map encS)])/\get fr' 1=stI s/\get fr' 3=.sl 0 (K.length+s.Nk.length) 0 (K.length+s.Nk.length) false:=by
 have hbS:∀n(K:List Str),Zd n (K.map encS)=true:=λn K=>ZN _<|Zw (λt=>rfl) K
 have L:=Y8 (E:=rE) (live:=[1,3,8]) (b:=c50L4b) s.Nk.length (λi=>[(1,stI s),(3,.sl 0 (K.length+i) 0 (K.length+i) false),(8,I i)])
  (λi=>[.row 1 ((K++(s.Nk.take i).map (·.Id)).map encS)]) (λi=>rfl)
  (λi hi=>by
   obtain⟨x,hx⟩:∃x,s.Nk[i]?=some x:=⟨_,ZWq hi⟩;have hg:=Z6 (f:=bc.enc) hx;have hi':=Zh hi;have hw:=Zx (n:=i)<|by omega
   have ht:=YW (λx:bc=>x.Id) hx
   have hn:(K++(s.Nk.take i).map (·.Id)).length=K.length+i:=by rw[ZWx,ZWd,take_len hx]
   have e1:(K++(s.Nk.take<|i+1).map (·.Id)).map encS=(K++(s.Nk.take i).map (·.Id)).map encS++[.str x.Id]:=by
    rw[ht,<-ZWU,ZWC];rfl
   rw[e1];generalize K++(s.Nk.take i).map (·.Id)=KS at hn⊢;rw[<-hn,<-ZXd,<-hn];have ha:=λq=>XC (h:=[.row 1<|KS.map encS,q]) (fz:=false) (b:=0) (g:=KS.length) (sz:=1) (es:=KS.map encS) (bw:=false) (ex:=false) (ys:=[.str x.Id]) (bytes:=16) (by simp[rowAt]) rfl (by rfl) (by omega) (by omega) (by simp;omega)
   have hb:=XC (h:=[.row 1<|KS.map encS]) (fz:=false) (b:=0) (g:=KS.length) (sz:=1) (es:=KS.map encS) (bw:=false) (ex:=false) (ys:=[.str x.Id]) (bytes:=16) (by simp[rowAt]) rfl (by rfl) (by omega) (by omega) (by simp;omega)
   refine⟨_,by simp only[go_sem,c50L4b,hg,hi',hw,bc.enc,NL.enc,ha,hb,beq_self_eq_true,hbS,ZWd];rfl,?_⟩
   simp only[go_sem])
  (e:=.exit 8) (by simp only[go_sem,c50L4b,ZG,ZWL,ZWd];rfl) (by simp)
 have e0:K++(s.Nk.take 0).map (λx:bc=>x.Id)=K:=by simp
 rw[e0]at L;refine⟨_,L,?_,?_⟩<;>simp only[go_sem]
def uqB(l:List Str)(i:Nat)(x:Str):Bool:=(l.take i).all (λy=>!Z3 x y)
def ZSb(l:List Str)(hl:l.length<=100000)(i:Nat)(x:Str)(hx:l[i]?=some x):∃fr',Zg rE [3,9,10] c50L5b [(3,.sl 0 l.length 0 l.length false),(9,I i),(10,.int .i64 0)] [.row 1<|l.map encS] =
 some (if uqB l i x=true then .exit 12 else .ret,fr',[.row 1<|l.map encS])/\
 (uqB l i x=true->get fr' 3=.sl 0 l.length 0 l.length false/\get fr' 9=I i)/\(uqB l i x=false->get fr' 2=.bool false):=by
 have hgx:=Z6 (f:=encS) hx;have hli:=Z7 hx;have hb1:=Zh hli;have hbS:∀n(K:List Str),Zd n (K.map encS)=true:=λn K=>ZN _<|Zw (λt=>rfl) K
 have L:=QT (E:=rE) (live:=[3,9,10]) (b:=c50L5b) (h:=[.row 1<|l.map encS]) (l.take i) (λ_ y=>!Z3 x y) (λk=>[(3,.sl 0 l.length 0 l.length false),(9,I i),(10,I k)]) 12
  (λfr=>get fr 3=.sl 0 l.length 0 l.length false/\get fr 9=I i) (λfr=>get fr 2=.bool false) (λk=>rfl)
  (λk y hy hP=>by
   obtain⟨hy',hk⟩:=HH hy;have hgy:=Z6 (f:=encS) hy';have hlt:=Zh hk;have hlk:=Zh<|Z7 hy';have hw:=Zx (n:=k)<|by omega
   have hP':Z3 x y=false:=by simpa using hP
   have hkl:=Z7 hy';have z1:=λes=>VT 0 l.length 0 1 (i:Int) l.length es ⟨by omega,by omega⟩
   have z2:=λes=>VT 0 l.length 0 1 (k:Int) l.length es ⟨by omega,by omega⟩
   have n1:((i:Int)).toNat=i:=rfl;have n2:((k:Int)).toNat=k:=rfl;refine⟨_,by simp only[go_sem,c50L5b,hgx,hgy,hlt,hw,z1,z2,n1,n2,if_true,hbS,beq_self_eq_true,encS,hP',ZWr,ZWE];rfl,?_⟩
   simp only[go_sem])
  (λk y hy hP=>by
   obtain⟨hy',hk⟩:=HH hy;have hgy:=Z6 (f:=encS) hy';have hlt:=Zh hk;have hP':Z3 x y=true:=by simpa using hP
   have hkl:=Z7 hy';have z1:=λes=>VT 0 l.length 0 1 (i:Int) l.length es ⟨by omega,by omega⟩
   have z2:=λes=>VT 0 l.length 0 1 (k:Int) l.length es ⟨by omega,by omega⟩
   have n1:((i:Int)).toNat=i:=rfl;have n2:((k:Int)).toNat=k:=rfl;refine⟨_,by simp only[go_sem,c50L5b,hgx,hgy,hlt,z1,z2,n1,n2,if_true,hbS,beq_self_eq_true,encS,hP',ZWr,ZWE];rfl,?_⟩
   simp only[go_sem])
  (by
   have e:(l.take i).length=i:=by rw[ZWS];omega
   rw[e];exact⟨_,by simp only[go_sem,c50L5b,ZG,hbS,beq_self_eq_true];rfl,by simp only[go_sem],by simp only[go_sem]⟩)
 rw[QE]at L;exact L
def ZUk(l:List Str)(hl:l.length<=100000):∃fr',Zg rE [3,9] c50L6b [(3,.sl 0 l.length 0 l.length false),(9,.int .i64 0)] [.row 1<|l.map encS] =
 some (if Zu (uqB l) 0 l=true then .exit 10 else .ret,fr',[.row 1<|l.map encS])/\(Zu (uqB l) 0 l=false->get fr' 2=.bool false):=by
 have hbS:∀n(K:List Str),Zd n (K.map encS)=true:=λn K=>ZN _<|Zw (λt=>rfl) K
 exact Uf (E:=rE) (live:=[3,9]) (b:=c50L6b) (h:=[.row 1<|l.map encS]) l (uqB l) (λi=>[(3,.sl 0 l.length 0 l.length false),(9,I i)]) 10 (λfr=>get fr 2=.bool false) (λk=>rfl)
  (λi x hx hP=>by
   have hlt:=Zh<|Z7 hx;have hw:=Zx (n:=i) (by have:=Z7 hx;omega)
   obtain⟨fr',h1,h2,_⟩:=ZSb l hl i x hx;rw[hP]at h1;obtain⟨g3,g9⟩:=h2 hP;refine⟨_,by simp only[go_sem,c50L6b,c50L5,hlt,hw,h1,g3,g9,hbS,beq_self_eq_true,if_true];rfl,?_⟩
   simp only[go_sem])
  (λi x hx hP=>by
   have hlt:=Zh<|Z7 hx;obtain⟨fr',h1,_,h2⟩:=ZSb l hl i x hx;rw[hP]at h1;refine⟨_,by simp only[go_sem,c50L6b,c50L5,hlt,h1,hbS,beq_self_eq_true,ZWn,if_false];rfl,?_⟩
   simp only[go_sem,h2 hP])
  (⟨_,by simp only[go_sem,c50L6b,ZG,hbS,beq_self_eq_true];rfl⟩)
def ZUl(l:List Str):Zu (uqB l) 0 l=Jq l:=by
 rw[<-ZS9,ZPy];apply ZPc;intro i x;unfold uqB;rw[ZPo]
def ZUm(s:Sta)(hs:StS s):pfn rE 50 [stA s]=some (.bool<|Jq<|Qp s):=by
 have hbS:∀n(K:List Str),Zd n (K.map encS)=true:=λn K=>ZN _<|Zw (λt=>rfl) K
 have h0:=hs.regions;have h1:=hs.streets;have h2:=hs.buildings;have h3:=hs.doors;have h4:=hs.units;obtain⟨f0,L0,a0,b0⟩:=ZUf s [] h0<|by simp
 obtain⟨f1,L1,a1,b1⟩:=ZUg s (s.Ga.map (·.Id)) h1<|by simp;omega
 obtain⟨f2,L2,a2,b2⟩:=ZUh s (s.Ga.map (·.Id)++s.Gr.map (·.Id)) h2<|by simp;omega
 obtain⟨f3,L3,a3,b3⟩:=ZUi s (s.Ga.map (·.Id)++s.Gr.map (·.Id)++s.By.map (·.Id)) h3<|by simp;omega
 obtain⟨f4,L4,a4,b4⟩:=ZUj s (s.Ga.map (·.Id)++s.Gr.map (·.Id)++s.By.map (·.Id)++s.Bc.map (·.Id)) h4<|by simp;omega
 have e:s.Ga.map (·.Id)++s.Gr.map (·.Id)++s.By.map (·.Id)++s.Bc.map (·.Id)++s.Nk.map (·.Id)=Qp s:=by unfold Qp;simp only[ZWU]
 rw[ZWQ]at L0;rw[e]at L4;simp only[ZWx,ZWd,ZWN,ZWr,ZWB]at L0 L1 L2 L3 L4 b0 b1 b2 b3 b4;have hlen:(Qp s).length=s.Ga.length+s.Gr.length+s.By.length+s.Bc.length+s.Nk.length:=by
  rw[<-e];simp only[ZWx,ZWd]
 obtain⟨f6,L6,c5006⟩:=ZUk (Qp s)<|by omega
 rw[hlen]at L6;rw[Z5 (f:=50) rfl rfl,<-ZUl];cases hc:Zu (uqB<|Qp s) 0 (Qp s)with
 |false=>rw[hc]at L6;simp only[go_sem,c50,c50L0,c50L1,c50L2,c50L3,c50L4,c50L6,L0,a0,b0,L1,a1,b1,L2,a2,b2,L3,a3,b3,L4,a4,b4,hbS,beq_self_eq_true,L6,c5006 hc,ZWn,if_false]
 |true=>rw[hc]at L6;simp only[go_sem,c50,c50L0,c50L1,c50L2,c50L3,c50L4,c50L6,L0,a0,b0,L1,a1,b1,L2,a2,b2,L3,a3,b3,L4,a4,b4,hbS,beq_self_eq_true,L6,if_true]
def pOk(p:be):Bool:=ZD p.a 0 63&&(ZD p.b 0 63&&!(p.a==p.b))
def ZUn(s:Sta)(hs:StS s):∃fr',Zg rE [1,3] c51L0b [(1,stI s),(3,.int .i64 0)] []=some (if s.Wk.all pOk=true then .exit 0 else .ret,fr',[])/\
 (s.Wk.all pOk=true->get fr' 1=stI s)/\(s.Wk.all pOk=false->get fr' 2=.bool false):=by
 have hl:=hs.rulings;have n1:((1:Int)).toNat=1:=rfl;have n0:((0:Int)).toNat=0:=rfl;have L:=QT (E:=rE) (live:=[1,3]) (b:=c51L0b) (h:=[]) s.Wk (λ_ p=>pOk p) (λi=>[(1,stI s),(3,I i)]) 0 (λfr=>get fr 1=stI s) (λfr=>get fr 2=.bool false) (λk=>rfl)
  (λi x hx hP=>by
   have hg:=Z6 (f:=be.enc) hx;have hlt:=Zh<|Z7 hx;have hw:=Zx (n:=i) (by have:=Z7 hx;omega)
   unfold pOk at hP;simp only[ZWe,ZWD]at hP;obtain⟨p1,p2,p3⟩:=hP;have r1:=ZOk x.a;have r2:=ZOk x.b;refine⟨_,by simp only[go_sem,c51L0b,hg,hlt,hw,be.enc,WJ,XL,n0,n1,if_true,r1,r2,p1,p2,p3,ZWd,ZWg];rfl,?_⟩
   simp only[go_sem])
  (λi x hx hP=>by
   have hg:=Z6 (f:=be.enc) hx;have hlt:=Zh<|Z7 hx;unfold pOk at hP;have r1:=ZOk x.a;have r2:=ZOk x.b;cases p1:ZD x.a 0 63 with
   |false=>
    refine⟨_,by simp only[go_sem,c51L0b,hg,hlt,be.enc,WJ,XL,n0,n1,if_true,r1,p1,ZWd,ZWi];rfl,?_⟩
    simp only[go_sem]
   |true=>
   cases p2:ZD x.b 0 63 with
   |false=>
    refine⟨_,by simp only[go_sem,c51L0b,hg,hlt,be.enc,WJ,XL,n0,n1,if_true,r1,r2,p1,p2,ZWd,ZWi,ZWg];rfl,?_⟩
    simp only[go_sem]
   |true=>
    rw[p1,p2,ZWf,ZWf,ZXO]at hP;refine⟨_,by simp only[go_sem,c51L0b,hg,hlt,be.enc,WJ,XL,n0,n1,if_true,r1,r2,p1,p2,hP,ZWd,ZWg];rfl,?_⟩
    simp only[go_sem])
  (⟨_,by simp only[go_sem,c51L0b,ZG,ZWd];rfl,by simp only[go_sem]⟩)
 rw[QE]at L;exact L
def mgS(l:List be)(i:Nat)(x:be):Bool:=(l.take i).all (λq=>!(q.b==x.b))
def ZSc(s:Sta)(hs:StS s)(i:Nat)(x:be)(hx:s.Gk[i]?=some x):∃fr',Zg rE [1,5,6,7] c51L1b [(1,stI s),(5,I i),(6,.ptr 0 0 0 1),(7,.int .i64 0)] [.row 2 [.agg [I x.a,I x.b]]] =
 some (if mgS s.Gk i x=true then .exit 4 else .ret,fr',[.row 2 [.agg [I x.a,I x.b]]])/\
 (mgS s.Gk i x=true->get fr' 1=stI s/\get fr' 5=I i)/\(mgS s.Gk i x=false->get fr' 1=stI s/\get fr' 5=I i/\get fr' 2=.bool false):=by
 have hl:=hs.merged;have hli:=Z7 hx;have n1:((1:Int)).toNat=1:=rfl;have L:=QT (E:=rE) (live:=[1,5,6,7]) (b:=c51L1b) (h:=[.row 2 [.agg [I x.a,I x.b]]]) (s.Gk.take i) (λ_ q=>!(q.b==x.b)) (λk=>[(1,stI s),(5,I i),(6,.ptr 0 0 0 1),(7,I k)]) 4 (λfr=>get fr 1=stI s/\get fr 5=I i) (λfr=>get fr 1=stI s/\get fr 5=I i/\get fr 2=.bool false) (λk=>rfl)
  (λk y hy hP=>by
   obtain⟨hy',hk⟩:=HH hy;have hgy:=Z6 (f:=be.enc) hy';have hlt:=Zh hk;have hw:=Zx (n:=k)<|by omega
   have hP':(y.b==x.b)=false:=by simpa using hP
   refine⟨_,by simp only[go_sem,c51L1b,hgy,hlt,hw,be.enc,XL,n1,if_true,hP'];rfl,?_⟩
   simp only[go_sem])
  (λk y hy hP=>by
   obtain⟨hy',hk⟩:=HH hy;have hgy:=Z6 (f:=be.enc) hy';have hlt:=Zh hk;have hP':(y.b==x.b)=true:=by simpa using hP
   refine⟨_,by simp only[go_sem,c51L1b,hgy,hlt,be.enc,XL,n1,if_true,hP'];rfl,?_⟩
   refine⟨?_,?_,?_⟩<;>simp only[go_sem])
  (by
   have e:(s.Gk.take i).length=i:=by rw[ZWS];omega
   rw[e];exact⟨_,by simp only[go_sem,c51L1b,ZG];rfl,by simp only[go_sem],by simp only[go_sem]⟩)
 rw[QE]at L;exact L
def mgB(l:List be)(i:Nat)(x:be):Bool:=pOk x&&mgS l i x
def ZUo(s:Sta)(hs:StS s):∃fr',Zg rE [1,5] c51L2b [(1,stI s),(5,.int .i64 0)] []=some (if Zu (mgB s.Gk) 0 s.Gk=true then .exit 2 else .ret,fr',[])/\
 (Zu (mgB s.Gk) 0 s.Gk=true->get fr' 1=stI s)/\(Zu (mgB s.Gk) 0 s.Gk=false->get fr' 2=.bool false):=by
 have hl:=hs.merged;have n1:((1:Int)).toNat=1:=rfl;have n0:((0:Int)).toNat=0:=rfl;exact QT (E:=rE) (live:=[1,5]) (b:=c51L2b) (h:=[]) s.Gk (mgB s.Gk) (λi=>[(1,stI s),(5,I i)]) 2 (λfr=>get fr 1=stI s) (λfr=>get fr 2=.bool false) (λk=>rfl)
  (λi x hx hP=>by
   have hg:(s.Gk.map be.enc)[i]?=some (.agg [I x.a,I x.b]):=Z6 (f:=be.enc) hx;have hlt:=Zh<|Z7 hx;have hw:=Zx (n:=i) (by have:=Z7 hx;omega)
   obtain⟨fr',h1,h2,_⟩:=ZSc s hs i x hx;unfold mgB pOk at hP;simp only[ZWe,ZWD]at hP;obtain⟨⟨p1,p2,p3⟩,p4⟩:=hP;rw[p4]at h1;obtain⟨g1,g5⟩:=h2 p4;have r1:=ZOk x.a;have r2:=ZOk x.b;refine⟨_,by simp only[go_sem,c51L2b,c51L1,hg,hlt,hw,WJ,XL,n0,n1,if_true,r1,r2,p1,p2,p3,h1,g1,g5,ZWd,ZWg];rfl,?_⟩
   simp only[go_sem])
  (λi x hx hP=>by
   have hg:(s.Gk.map be.enc)[i]?=some (.agg [I x.a,I x.b]):=Z6 (f:=be.enc) hx;have hlt:=Zh<|Z7 hx;obtain⟨fr',h1,_,h2⟩:=ZSc s hs i x hx;unfold mgB pOk at hP;have r1:=ZOk x.a;have r2:=ZOk x.b;cases p1:ZD x.a 0 63 with
   |false=>
    refine⟨_,by simp only[go_sem,c51L2b,hg,hlt,WJ,XL,n0,n1,if_true,r1,p1,ZWd,ZWi];rfl,?_⟩
    simp only[go_sem]
   |true=>
   cases p2:ZD x.b 0 63 with
   |false=>
    refine⟨_,by simp only[go_sem,c51L2b,hg,hlt,WJ,XL,n0,n1,if_true,r1,r2,p1,p2,ZWd,ZWi,ZWg];rfl,?_⟩
    simp only[go_sem]
   |true=>
   cases p3:(x.a==x.b)with
   |true=>
    refine⟨_,by simp only[go_sem,c51L2b,hg,hlt,WJ,XL,n0,n1,if_true,r1,r2,p1,p2,p3,ZWd,ZWg];rfl,?_⟩
    simp only[go_sem]
   |false=>
    rw[p1,p2,p3,ZWi,ZWf,ZWf,ZWf]at hP;rw[hP]at h1;obtain⟨g1,g5,g2⟩:=h2 hP;refine⟨_,by simp only[go_sem,c51L2b,c51L1,hg,hlt,g1,g5,g2,WJ,XL,n0,n1,if_true,r1,r2,p1,p2,p3,h1,ZWd,ZWg,ZWn,if_false];rfl,?_⟩
    simp only[go_sem])
  (⟨_,by simp only[go_sem,c51L2b,ZG,ZWd];rfl,by simp only[go_sem]⟩)
def ZQs(s:Sta)(hs:StS s)(a:Nat):∀(k n:Nat)(at':Int),n+k=65->∃fr',Zg rE [1,8,9,10] c51L3b [(1,stI s),(8,I a),(9,I at'),(10,I n)] []=some (if chN s k at'=true then .exit 8 else .ret,fr',[])/\
 (chN s k at'=true->get fr' 1=stI s/\get fr' 8=I a)/\(chN s k at'=false->get fr' 2=.bool false)
 |0,n,at',hk=>by
  have hn:n=65:=by omega
  subst hn;have hd:decide (((65:Nat):Int)>64)=true:=rfl;unfold chN;cases c:decide (at'>=0)with
  |false=>
   refine⟨_,Q7 rfl (by simp only[go_sem,c51L3b,c];rfl) (by simp),?_,?_⟩
   .intro _;constructor<;>simp only[go_sem]
   .intro h;cases h
  |true=>
   refine⟨_,Q7 rfl (by simp only[go_sem,c51L3b,c,hd];rfl) (by simp),?_,?_⟩
   .intro h;cases h
   .intro _;simp only[go_sem]
 |k+1,n,at',hk=>by
  have hd:decide (((n:Nat):Int)>64)=false:=decide_eq_false<|by omega
  have hw:=Zx (n:=n)<|by omega
  have ht:=ZQr s hs at';unfold chN;cases c:decide (at'>=0)with
  |false=>
   refine⟨_,Q7 rfl (by simp only[go_sem,c51L3b,c];rfl) (by simp),?_,?_⟩
   .intro _;constructor<;>simp only[go_sem]
   .intro h;cases h
  |true=>
   obtain⟨fr',h1,h2⟩:=ZQs s hs a k (n+1) (XJ s at')<|by omega
   refine⟨fr',?_,h2⟩;rw[cond_true,<-h1];rw[Yt rfl (by simp only[go_sem,c51L3b,c,hd,hw,ht];rfl)]
   simp only[go_sem]
def ZUp(s:Sta)(hs:StS s):∃fr',Zg rE [1,8] c51L4b [(1,stI s),(8,.int .i64 0)] []=some (if(List.range 64).all (λa=>chN s 65 a)=true then .exit 6 else .ret,fr',[])/\((List.range 64).all (λa=>chN s 65 a)=false->get fr' 2=.bool false):=by
 have hr:∀(i a:Nat),(List.range 64)[i]?=some a->a=i/\i<64:=λi a h=>by
  have h1:=Z7 h;rw[ZXY]at h1;rw[List.getElem?_range h1]at h;exact⟨by injection h with h;exact h.symm,h1⟩
 have L:=Uf (E:=rE) (live:=[1,8]) (b:=c51L4b) (h:=[]) (List.range 64) (λ_ a=>chN s 65 a) (λi=>[(1,stI s),(8,I i)]) 6 (λfr=>get fr 2=.bool false) (λk=>rfl)
  (λi a ha hP=>by
   obtain⟨rfl,h64⟩:=hr i a ha;have hlt:decide ((a:Int)<64)=true:=decide_eq_true<|by omega
   have hw:=Zx (n:=a)<|by omega
   obtain⟨fr',h1,h2,_⟩:=ZQs s hs a 65 0 a rfl;rw[hP]at h1;obtain⟨g1,g8⟩:=h2 hP;have h1':Zg rE [1,8,9,10] c51L3b [(1,stI s),(8,I a),(9,I a),(10,.int .i64 0)] []=_:=h1;refine⟨_,by simp only[go_sem,c51L4b,c51L3,hlt,hw,h1',g1,g8,if_true];rfl,?_⟩
   simp only[go_sem])
  (λi a ha hP=>by
   obtain⟨rfl,h64⟩:=hr i a ha;have hlt:decide ((a:Int)<64)=true:=decide_eq_true<|by omega
   obtain⟨fr',h1,_,h2⟩:=ZQs s hs a 65 0 a rfl;rw[hP]at h1;have h1':Zg rE [1,8,9,10] c51L3b [(1,stI s),(8,I a),(9,I a),(10,.int .i64 0)] []=_:=h1;refine⟨_,by simp only[go_sem,c51L4b,c51L3,hlt,h1',ZWn,if_false];rfl,?_⟩
   simp only[go_sem,h2 hP])
  (by
   have e:(List.range 64).length=64:=rfl;have hlt:decide (((64:Nat):Int)<64)=false:=rfl;rw[e];exact⟨_,by simp only[go_sem,c51L4b,hlt];rfl⟩)
 rw[QE]at L;exact L
def ZPZ(s:Sta):Bool:=s.Wk.all pOk&&(Zu (mgB s.Gk) 0 s.Gk&&(List.range 64).all (λa=>chN s 65 a))
def ZUq(s:Sta)(hs:StS s):pfn rE 51 [stA s]=some (.bool<|ZPZ s):=by
 obtain⟨f0,L0,a0,b0⟩:=ZUn s hs;obtain⟨f2,L2,a2,b2⟩:=ZUo s hs;obtain⟨f4,L4,b4⟩:=ZUp s hs;rw[Z5 (f:=51) rfl rfl];unfold ZPZ;cases c0:s.Wk.all pOk with
 |false=>rw[c0]at L0;simp only[go_sem,c51,c51L0,L0,b0 c0,ZWh,ZWn,if_false]
 |true=>
 rw[c0]at L0;cases c2:Zu (mgB s.Gk) 0 s.Gk with
 |false=>rw[c2]at L2;simp only[go_sem,c51,c51L0,c51L2,L0,a0 c0,L2,b2 c2,ZWh,ZWf,ZWn,if_false,if_true]
 |true=>
 rw[c2]at L2;cases c5004:(List.range 64).all (λa=>chN s 65 a)with
 |false=>rw[c5004]at L4;simp only[go_sem,c51,c51L0,c51L2,c51L4,L0,a0 c0,L2,a2 c2,L4,b4 c5004,ZWf,ZWn,if_false,if_true]
 |true=>rw[c5004]at L4;simp only[go_sem,c51,c51L0,c51L2,c51L4,L0,a0 c0,L2,a2 c2,L4,ZWf,if_true]
def itT(s:Sta):Nat->Int->Int
 |0,x=>x
 |n+1,x=>itT s n<|XJ s x
def Zdq(s:Sta):∀n x,itT s (n+1) x=XJ s (itT s n x)
 |0,_=>rfl
 |n+1,x=>Zdq s n<|XJ s x
def Zdh(s:Sta)(m:Nat)(x:Int):∀n,itT s (m+n) x=itT s n (itT s m x)
 |0=>rfl
 |n+1=>by rw[show m+(n+1)=(m+n)+1 by omega,Zdq,Zdh s m x n,Zdq]
def ZdY(s:Sta):∀n x,chN s n x=true↔∃j,j<=n/\itT s j x<0
 |0,x=>by
  unfold chN;rw[ZWD,decide_eq_false_iff_not];exact⟨λh=>⟨0,ZWo _,by show x<0;omega⟩,λ⟨j,h1,h2⟩=>by
   have:j=0:=by omega
   subst this;have:x<0:=h2;omega⟩
 |n+1,x=>by
  unfold chN;cases hx:decide (x>=0)with
  |false=>
   rw[cond_false];exact⟨λ_=>⟨0,ZWy _,by have:=of_decide_eq_false hx;show x<0;omega⟩,λ_=>rfl⟩
  |true=>
   rw[cond_true,ZdY s n];constructor
   .rintro⟨j,h1,h2⟩;exact⟨j+1,by omega,h2⟩
   .rintro⟨j,h1,h2⟩;cases j with
    |zero=>
     have:x<0:=h2;have:=of_decide_eq_true hx;omega
    |succ j=>exact⟨j,by omega,h2⟩
def ZdZ:∀(l m:List Int),l.Nodup->(∀x∈l,x∈m)->l.length<=m.length
 |[],m,_,_=>ZWy _
 |a::r,m,h,hs=>by
  rw[ZXs]at h;have ha:=hs a<|ZXh ..;have:=ZdZ r (m.erase a) h.2<|λx hx=>(List.mem_erase_of_ne<|by rintro rfl;exact h.1 hx).2 (hs x<|ZXz _ hx)
  rw[List.length_erase_of_mem ha]at this;have hl:0<m.length:=List.length_pos_of_mem ha;rw[ZWJ];omega
def least(P:Nat->Prop):∀n,P n->∃m,P m/\∀k,k<m->¬P k:=by
 intro n;induction n using Nat.strongRecOn with
 |_ n ih=>
  intro h;by_cases hc:∃k,k<n/\P k
  .obtain⟨k,h1,h2⟩:=hc;exact ih k h1 h2
  .exact⟨n,h,λk hk hp=>hc ⟨k,hk,hp⟩⟩
def Zez(s:Sta){n:Nat}{x:Int}(h:chN s n x=true):chN s (s.Gk.length+1) x=true:=by
 rw[ZdY]at h⊢;obtain⟨j,_,hj⟩:=h;obtain⟨m,hm,hmin⟩:=least (λj=>itT s j x<0) j hj
 refine⟨m,?_,hm⟩;have hnd:((List.range<|m-1).map (λi=>itT s i x)).Nodup:=by
  rw[ZZ6,ZYr];refine List.Pairwise.imp_of_mem ?_<|ZZ6.1 List.nodup_range;intro i k hi hk hne heq;rw[ZXA]at hi hk;rcases Nat.lt_or_gt_of_ne hne with hlt|hlt
  .have h1:itT s (k+(m-k)) x=itT s (i+(m-k)) x:=by rw[Zdh,Zdh,heq]
   rw[show k+(m-k)=m by omega]at h1
   exact hmin (i+(m-k)) (by omega)<|by rw[<-h1];exact hm
  .have h1:itT s (i+(m-i)) x=itT s (k+(m-i)) x:=by rw[Zdh,Zdh,heq]
   rw[show i+(m-i)=m by omega]at h1
   exact hmin (k+(m-i)) (by omega)<|by rw[<-h1];exact hm
 have hsub:∀y∈(List.range<|m-1).map (λi=>itT s i x),y∈s.Gk.map (·.b):=by
  intro y hy;obtain⟨i,hi,rfl⟩:=ZX4.1 hy;rw[ZXA]at hi;have h1:=hmin (i+1)<|by omega
  rw[Zdq]at h1;unfold XJ at h1;cases hf:s.Gk.find? (λp=>p.b==itT s i x)with
  |none=>rw[hf]at h1;exact absurd (by decide) h1
  |some p=>
   have h2:=ZYb hf;have h3:=ZXW hf;rw[<-(by simpa using h2:p.b=itT s i x)]
   exact ZZ4 h3
 have:=ZdZ _ _ hnd hsub;rw[ZWd,ZWd,ZXY]at this;omega
def ZQt(p:be):pOk p=Y2 p:=by
 have w1:ZD 0 (-1) 100000=true:=rfl;have w2:ZD 0 0 100000=true:=rfl;unfold pOk Y2 QM;rw[w1,w2];simp
def ZSd(x:Int):∀(l:List be)(K:List Int),(l.foldl (λK p=>Qi Vm K p.b) K).any (Vm x)=(K.any (Vm x)||l.any (λq=>Vm x q.b))
 |[],K=>by simp
 |p::r,K=>by
  rw[ZXb,ZSd x r,ZWR,<-Bool.or_assoc];congr 1;unfold Qi;cases hk:K.any (Vm p.b)with
  |true=>
   rw[cond_true];cases he:Vm x p.b with
   |false=>simp
   |true=>
    have:x=p.b:=eq_of_beq he;rw[this,hk];simp
  |false=>rw[cond_false,ZYk];simp
def ZSe(l:List be):Zu (mgB l) 0 l=UB l:=by
 unfold UB;apply ZPc;intro i x;unfold mgB mgS QV;rw[ZQt,ZSd,ZWY,ZWl,ZPo];congr 1;apply ZOu;intro q _;unfold Vm;rw[ZOx]
def ZUr{l:List be}(h:UB l=true):∀p∈l,Y2 p=true:=by
 rw[<-ZSe]at h;unfold mgB at h;rw[ZPb,ZWe,QE]at h;intro p hp;rw[<-ZQt];exact ZWw.1 h.1 p hp
def ZUs(s:Sta)(hm:s.Gk.length<=64):ZPZ s=WK s:=by
 unfold ZPZ WK;rw[ZSe,show s.Wk.all pOk=s.Wk.all Y2 from ZOu λp _=>ZQt p]
 cases hM:UB s.Gk with
 |false=>simp
 |true=>
  rw[ZWf,ZWf];congr 1;have hp:=ZUr hM;rw[ZWI,ZWw,ZWw];constructor
  .intro h p hpm;have h1:=hp p hpm;unfold Y2 QM ZD at h1;simp only[ZWe,decide_eq_true_eq]at h1;have h2:=h p.b.toNat (by rw[ZXA];omega)
   rw[show((p.b.toNat:Nat):Int)=p.b by omega]at h2
   exact Zez s h2
  .intro h a ha;rw[ZXA]at ha;cases hf:s.Gk.find? (λp=>p.b==(a:Int))with
   |none=>
    rw[ZdY];refine⟨1,by omega,?_⟩
    show XJ s a<0
    unfold XJ;rw[hf];decide
   |some p=>
    have h2:=ZYb hf;have h3:=h p<|ZXW hf;have h4:p.b=(a:Int):=by simpa using h2
    rw[h4,ZdY]at h3;obtain⟨j,h5,h6⟩:=h3;rw[ZdY];exact⟨j,by omega,h6⟩
def ZUt(s:Sta)(hs:StS s)(hm:s.Gk.length<=64):pfn rE 51 [stA s]=some (.bool<|WK s):=by rw[ZUq s hs,ZUs s hm]
structure StR(s:Sta):Prop extends StE s where
 rn:∀x∈s.Ga,∀n∈x.bh.l,n.Lang.size<=1000000/\n.Text.size<=1000000
 sn:∀x∈s.Gr,∀n∈x.bh.l,n.Lang.size<=1000000/\n.Text.size<=1000000
 mg:s.Gk.length<=64
def rgR(x:Gm):Bool:=ZD x.bg 0 63&&(ZD x.Ld (-1) 100000&&(Jp x.bh.l x.bh.ex&&(Q9 {Jt x with bp:=1})))
def ZUu(x:Gm):rgR x=Vo x:=by
 have w:ZD 0 0 100000=true:=rfl;unfold rgR Vo QM;rw[w];simp[ZXp]
def ZUv(s:Sta)(hs:StR s):∃fr',Zg rE [1,3] c22L0b [(1,stI s),(3,.int .i64 0)] []=some (if s.Ga.all rgR=true then .exit 0 else .ret,fr',[])/\
 (s.Ga.all rgR=true->get fr' 1=stI s)/\(s.Ga.all rgR=false->get fr' 2=.bool false):=by
 have L:=QT (E:=rE) (live:=[1,3]) (b:=c22L0b) (h:=[]) s.Ga (λ_ x=>rgR x) (λi=>[(1,stI s),(3,I i)]) 0 (λfr=>get fr 1=stI s) (λfr=>get fr 2=.bool false) (λk=>rfl)
  (λi x hx hP=>by
   have hg:(s.Ga.map Gm.enc)[i]?=some (.agg [.str x.Id,I x.bp,I x.bg,.isl false x.Ring.ex 2<|x.Ring.l.map Pt.enc,.isl false x.bh.ex 3<|x.bh.l.map Nm.enc,I x.Ld]):=Z6 (f:=Gm.enc) hx;have hlt:=Zh<|Z7 hx;have hm:=ZWu hx;have hw:=Zx (n:=i) (by have:=Z7 hx;have:=hs.toStE.sizes.regions;omega)
   have h0:=ZOk x.bg;have h1:=ZOn x.Ld<|-1;have h2:=ZPX x.bh.l x.bh.ex (hs.toStE.regions x hm).1 (hs.rn x hm);have h30:=ZOy {Jt x with bp:=1} ⟨⟨by simp[Jt],by simp[Jt],(hs.toStE.regions x hm).2.1,by simp[Jt],(hs.toStE.regions x hm).2.2,ZWM rfl,ZWM rfl⟩,ZOF _ rfl⟩<|by simp
   have h3:pfn rE 36 [.agg [I 1,I 0,I x.bp,I 0,I 0,.str x.Id,.str emp,.str emp,.isl false false 1 [],.isl false false 3 [],I 0,.str emp,I 0,I 0,I 0,I 0,.isl false x.Ring.ex 2<|x.Ring.l.map Pt.enc,.isl false false 7 []]]=some (.bool<|Q9 {Jt x with bp:=1}):=h30
   unfold rgR at hP;simp only[ZWe]at hP;obtain⟨p0,p1,p2,p3⟩:=hP;refine⟨_,by simp only[go_sem,c22L0b,hg,hlt,hw,h0,h1,h2,h3,p0,p1,p2,p3,ZWd,ZWg];rfl,?_⟩
   simp only[go_sem])
  (λi x hx hP=>by
   have hg:(s.Ga.map Gm.enc)[i]?=some (.agg [.str x.Id,I x.bp,I x.bg,.isl false x.Ring.ex 2<|x.Ring.l.map Pt.enc,.isl false x.bh.ex 3<|x.bh.l.map Nm.enc,I x.Ld]):=Z6 (f:=Gm.enc) hx;have hlt:=Zh<|Z7 hx;have hm:=ZWu hx;have h0:=ZOk x.bg;have h1:=ZOn x.Ld<|-1;have h2:=ZPX x.bh.l x.bh.ex (hs.toStE.regions x hm).1 (hs.rn x hm);have h30:=ZOy {Jt x with bp:=1} ⟨⟨by simp[Jt],by simp[Jt],(hs.toStE.regions x hm).2.1,by simp[Jt],(hs.toStE.regions x hm).2.2,ZWM rfl,ZWM rfl⟩,ZOF _ rfl⟩<|by simp
   have h3:pfn rE 36 [.agg [I 1,I 0,I x.bp,I 0,I 0,.str x.Id,.str emp,.str emp,.isl false false 1 [],.isl false false 3 [],I 0,.str emp,I 0,I 0,I 0,I 0,.isl false x.Ring.ex 2<|x.Ring.l.map Pt.enc,.isl false false 7 []]]=some (.bool<|Q9 {Jt x with bp:=1}):=h30
   unfold rgR at hP;cases p0:ZD x.bg 0 63 with
   |false=>
    refine⟨_,by simp only[go_sem,c22L0b,hg,hlt,h0,h1,h2,h3,p0,ZWd,ZWg,ZWi];rfl,?_⟩
    simp only[go_sem]
   |true=>
   cases p1:ZD x.Ld (-1) 100000 with
   |false=>
    refine⟨_,by simp only[go_sem,c22L0b,hg,hlt,h0,h1,h2,h3,p0,p1,ZWd,ZWg,ZWi];rfl,?_⟩
    simp only[go_sem]
   |true=>
   cases p2:Jp x.bh.l x.bh.ex with
   |false=>
    refine⟨_,by simp only[go_sem,c22L0b,hg,hlt,h0,h1,h2,h3,p0,p1,p2,ZWd,ZWg,ZWi];rfl,?_⟩
    simp only[go_sem]
   |true=>
   rw[p0,p1,p2,ZWf,ZWf,ZWf]at hP;refine⟨_,by simp only[go_sem,c22L0b,hg,hlt,h0,h1,h2,h3,p0,p1,p2,hP,ZWd,ZWg,ZWi];rfl,?_⟩
   simp only[go_sem])
  (⟨_,by simp only[go_sem,c22L0b,ZG,ZWd];rfl,by simp only[go_sem]⟩)
 rw[QE]at L;exact L
def stR(x:Ev):Bool:=ZD x.bg 0 63&&(ZD x.Ld (-1) 100000&&(Jp x.bh.l x.bh.ex&&(Q9 {Ju x with bp:=2})))
def ZUw(x:Ev):stR x=Vp x:=by
 have w:ZD 0 0 100000=true:=rfl;unfold stR Vp QM;rw[w];simp[ZXp]
def ZUx(s:Sta)(hs:StR s):∃fr',Zg rE [1,5] c22L1b [(1,stI s),(5,.int .i64 0)] []=some (if s.Gr.all stR=true then .exit 2 else .ret,fr',[])/\
 (s.Gr.all stR=true->get fr' 1=stI s)/\(s.Gr.all stR=false->get fr' 2=.bool false):=by
 have L:=QT (E:=rE) (live:=[1,5]) (b:=c22L1b) (h:=[]) s.Gr (λ_ x=>stR x) (λi=>[(1,stI s),(5,I i)]) 2 (λfr=>get fr 1=stI s) (λfr=>get fr 2=.bool false) (λk=>rfl)
  (λi x hx hP=>by
   have hg:(s.Gr.map Ev.enc)[i]?=some (.agg [.str x.Id,I x.bg,.isl false x.Line.ex 2<|x.Line.l.map Pt.enc,.isl false x.bh.ex 3<|x.bh.l.map Nm.enc,I x.Ld]):=Z6 (f:=Ev.enc) hx;have hlt:=Zh<|Z7 hx;have hm:=ZWu hx;have hw:=Zx (n:=i) (by have:=Z7 hx;have:=hs.toStE.sizes.streets;omega)
   have h0:=ZOk x.bg;have h1:=ZOn x.Ld<|-1;have h2:=ZPX x.bh.l x.bh.ex (hs.toStE.streets x hm).1 (hs.sn x hm);have h30:=ZOy {Ju x with bp:=2} ⟨⟨by simp[Ju],by simp[Ju],(hs.toStE.streets x hm).2.1,by simp[Ju],(hs.toStE.streets x hm).2.2,ZWM rfl,ZWM rfl⟩,ZOF _ rfl⟩<|by simp
   have h3:pfn rE 36 [.agg [I 2,I 0,I 0,I 0,I 0,.str x.Id,.str emp,.str emp,.isl false false 1 [],.isl false false 3 [],I 0,.str emp,I 0,I 0,I 0,I 0,.isl false x.Line.ex 2<|x.Line.l.map Pt.enc,.isl false false 7 []]]=some (.bool<|Q9 {Ju x with bp:=2}):=h30
   unfold stR at hP;simp only[ZWe]at hP;obtain⟨p0,p1,p2,p3⟩:=hP;refine⟨_,by simp only[go_sem,c22L1b,hg,hlt,hw,h0,h1,h2,h3,p0,p1,p2,p3,ZWd,ZWg];rfl,?_⟩
   simp only[go_sem])
  (λi x hx hP=>by
   have hg:(s.Gr.map Ev.enc)[i]?=some (.agg [.str x.Id,I x.bg,.isl false x.Line.ex 2<|x.Line.l.map Pt.enc,.isl false x.bh.ex 3<|x.bh.l.map Nm.enc,I x.Ld]):=Z6 (f:=Ev.enc) hx;have hlt:=Zh<|Z7 hx;have hm:=ZWu hx;have h0:=ZOk x.bg;have h1:=ZOn x.Ld<|-1;have h2:=ZPX x.bh.l x.bh.ex (hs.toStE.streets x hm).1 (hs.sn x hm);have h30:=ZOy {Ju x with bp:=2} ⟨⟨by simp[Ju],by simp[Ju],(hs.toStE.streets x hm).2.1,by simp[Ju],(hs.toStE.streets x hm).2.2,ZWM rfl,ZWM rfl⟩,ZOF _ rfl⟩<|by simp
   have h3:pfn rE 36 [.agg [I 2,I 0,I 0,I 0,I 0,.str x.Id,.str emp,.str emp,.isl false false 1 [],.isl false false 3 [],I 0,.str emp,I 0,I 0,I 0,I 0,.isl false x.Line.ex 2<|x.Line.l.map Pt.enc,.isl false false 7 []]]=some (.bool<|Q9 {Ju x with bp:=2}):=h30
   unfold stR at hP;cases p0:ZD x.bg 0 63 with
   |false=>
    refine⟨_,by simp only[go_sem,c22L1b,hg,hlt,h0,h1,h2,h3,p0,ZWd,ZWg,ZWi];rfl,?_⟩
    simp only[go_sem]
   |true=>
   cases p1:ZD x.Ld (-1) 100000 with
   |false=>
    refine⟨_,by simp only[go_sem,c22L1b,hg,hlt,h0,h1,h2,h3,p0,p1,ZWd,ZWg,ZWi];rfl,?_⟩
    simp only[go_sem]
   |true=>
   cases p2:Jp x.bh.l x.bh.ex with
   |false=>
    refine⟨_,by simp only[go_sem,c22L1b,hg,hlt,h0,h1,h2,h3,p0,p1,p2,ZWd,ZWg,ZWi];rfl,?_⟩
    simp only[go_sem]
   |true=>
   rw[p0,p1,p2,ZWf,ZWf,ZWf]at hP;refine⟨_,by simp only[go_sem,c22L1b,hg,hlt,h0,h1,h2,h3,p0,p1,p2,hP,ZWd,ZWg,ZWi];rfl,?_⟩
   simp only[go_sem])
  (⟨_,by simp only[go_sem,c22L1b,ZG,ZWd];rfl,by simp only[go_sem]⟩)
 rw[QE]at L;exact L
def buR(x:Fa):Bool:=ZD x.bg 0 63&&(ZD x.Ld (-1) 100000&&(Q9 {Jv x with bp:=5}))
def ZUy(x:Fa):buR x=Vq x:=by
 have w:ZD 0 0 100000=true:=rfl;unfold buR Vq QM;rw[w];simp[ZXp]
def ZUz(s:Sta)(hs:StR s):∃fr',Zg rE [1,7] c22L2b [(1,stI s),(7,.int .i64 0)] []=some (if s.By.all buR=true then .exit 4 else .ret,fr',[])/\
 (s.By.all buR=true->get fr' 1=stI s)/\(s.By.all buR=false->get fr' 2=.bool false):=by
 have L:=QT (E:=rE) (live:=[1,7]) (b:=c22L2b) (h:=[]) s.By (λ_ x=>buR x) (λi=>[(1,stI s),(7,I i)]) 4 (λfr=>get fr 1=stI s) (λfr=>get fr 2=.bool false) (λk=>rfl)
  (λi x hx hP=>by
   have hg:(s.By.map Fa.enc)[i]?=some (.agg [.str x.Id,I x.bg,.isl false x.Ring.ex 2<|x.Ring.l.map Pt.enc,I x.Ld]):=Z6 (f:=Fa.enc) hx;have hlt:=Zh<|Z7 hx;have hm:=ZWu hx;have hw:=Zx (n:=i) (by have:=Z7 hx;have:=hs.toStE.sizes.buildings;omega)
   have h0:=ZOk x.bg;have h1:=ZOn x.Ld<|-1;have h20:=ZOy {Jv x with bp:=5} ⟨⟨by simp[Jv],by simp[Jv],(hs.toStE.buildings x hm).1,by simp[Jv],(hs.toStE.buildings x hm).2,ZWM rfl,ZWM rfl⟩,ZOF _ rfl⟩<|by simp
   have h2:pfn rE 36 [.agg [I 5,I 0,I 0,I 0,I 0,.str x.Id,.str emp,.str emp,.isl false false 1 [],.isl false false 3 [],I 0,.str emp,I 0,I 0,I 0,I 0,.isl false x.Ring.ex 2<|x.Ring.l.map Pt.enc,.isl false false 7 []]]=some (.bool<|Q9 {Jv x with bp:=5}):=h20
   unfold buR at hP;simp only[ZWe]at hP;obtain⟨p0,p1,p2⟩:=hP;refine⟨_,by simp only[go_sem,c22L2b,hg,hlt,hw,h0,h1,h2,p0,p1,p2,ZWd,ZWg];rfl,?_⟩
   simp only[go_sem])
  (λi x hx hP=>by
   have hg:(s.By.map Fa.enc)[i]?=some (.agg [.str x.Id,I x.bg,.isl false x.Ring.ex 2<|x.Ring.l.map Pt.enc,I x.Ld]):=Z6 (f:=Fa.enc) hx;have hlt:=Zh<|Z7 hx;have hm:=ZWu hx;have h0:=ZOk x.bg;have h1:=ZOn x.Ld<|-1;have h20:=ZOy {Jv x with bp:=5} ⟨⟨by simp[Jv],by simp[Jv],(hs.toStE.buildings x hm).1,by simp[Jv],(hs.toStE.buildings x hm).2,ZWM rfl,ZWM rfl⟩,ZOF _ rfl⟩<|by simp
   have h2:pfn rE 36 [.agg [I 5,I 0,I 0,I 0,I 0,.str x.Id,.str emp,.str emp,.isl false false 1 [],.isl false false 3 [],I 0,.str emp,I 0,I 0,I 0,I 0,.isl false x.Ring.ex 2<|x.Ring.l.map Pt.enc,.isl false false 7 []]]=some (.bool<|Q9 {Jv x with bp:=5}):=h20
   unfold buR at hP;cases p0:ZD x.bg 0 63 with
   |false=>
    refine⟨_,by simp only[go_sem,c22L2b,hg,hlt,h0,h1,h2,p0,ZWd,ZWg,ZWi];rfl,?_⟩
    simp only[go_sem]
   |true=>
   cases p1:ZD x.Ld (-1) 100000 with
   |false=>
    refine⟨_,by simp only[go_sem,c22L2b,hg,hlt,h0,h1,h2,p0,p1,ZWd,ZWg,ZWi];rfl,?_⟩
    simp only[go_sem]
   |true=>
   rw[p0,p1,ZWf,ZWf]at hP;refine⟨_,by simp only[go_sem,c22L2b,hg,hlt,h0,h1,h2,p0,p1,hP,ZWd,ZWg,ZWi];rfl,?_⟩
   simp only[go_sem])
  (⟨_,by simp only[go_sem,c22L2b,ZG,ZWd];rfl,by simp only[go_sem]⟩)
 rw[QE]at L;exact L
def ZPA(s:Sta)(i:Nat)(x:Gc):Bool:=Zu (afS s i x.After.l) 0 x.After.l&&ZPr x
def ZUA(s:Sta)(hs:StR s):∃fr',Zg rE [1,9] c22L3b [(1,stI s),(9,.int .i64 0)] []=some (if Zu (ZOO s) 0 s.Bc=true then .exit 6 else .ret,fr',[])/\
 (Zu (ZOO s) 0 s.Bc=true->get fr' 1=stI s)/\(Zu (ZOO s) 0 s.Bc=false->get fr' 2=.bool false):=by
 exact QT (E:=rE) (live:=[1,9]) (b:=c22L3b) (h:=[]) s.Bc (ZOO s) (λi=>[(1,stI s),(9,I i)]) 6 (λfr=>get fr 1=stI s) (λfr=>get fr 2=.bool false) (λk=>rfl)
  (λi x hx hP=>by
   have hg:(s.Bc.map Gc.enc)[i]?=some (.agg [.str x.Id,.str x.Fa,.str x.Ev,I x.bg,I x.An.N,.str x.An.bk,I x.An.Num,I x.An.Den,I x.bf.X,I x.bf.Y,I x.From,I x.Ld,.isl false x.After.ex 1<|x.After.l.map encS,I x.Why,I x.br,.str x.Veil]):=Z6 (f:=Gc.enc) hx;have hlt:=Zh<|Z7 hx;have hm:=ZWu hx;have hd:=hs.toStE.doors x hm;have hw:=Zx (n:=i) (by have:=Z7 hx;have:=hs.toStE.sizes.doors;omega)
   have h0:=ZOk x.bg;have h1:=ZOn x.Ld<|-1;have h2:=ZOn x.From 0;have h3:pfn rE 56 [stA s,I i]=some (.bool<|ZPA s i x):=ZS7 s hs.toStE.sizes i x hx hd;have h4:pfn rE 57 [stA s,.agg [.str x.Id,.str x.Fa,.str x.Ev,I x.bg,I x.An.N,.str x.An.bk,I x.An.Num,I x.An.Den,I x.bf.X,I x.bf.Y,I x.From,I x.Ld,.isl false x.After.ex 1<|x.After.l.map encS,I x.Why,I x.br,.str x.Veil]]=some (.bool<|ZP0 s x):=ZS5 s hs.toStE.sizes x hd;have h5:pfn rE 58 [.agg [.str x.Id,.str x.Fa,.str x.Ev,I x.bg,I x.An.N,.str x.An.bk,I x.An.Num,I x.An.Den,I x.bf.X,I x.bf.Y,I x.From,I x.Ld,.isl false x.After.ex 1<|x.After.l.map encS,I x.Why,I x.br,.str x.Veil]]=some (.bool<|ZON x):=ZS4 x hd;have hP':(ZD x.bg 0 63&&(ZD x.Ld (-1) 100000&&(ZD x.From 0 100000&&(ZPA s i x&&(bif Z3 x.Veil emp then ZP0 s x else ZON x)))))=true:=hP;simp only[ZWe]at hP';obtain⟨p0,p1,p2,p3,p4⟩:=hP';cases v:Z3 x.Veil emp with
   |true=>
    rw[v,cond_true]at p4;refine⟨_,by simp only[go_sem,c22L3b,hg,hlt,hw,h0,h1,h2,h3,h4,h5,ZWd,ZWg,ZWi,p0,p1,p2,p3,v,p4];rfl,?_⟩
    simp only[go_sem]
   |false=>
    rw[v,cond_false]at p4;refine⟨_,by simp only[go_sem,c22L3b,hg,hlt,hw,h0,h1,h2,h3,h4,h5,ZWd,ZWg,ZWi,p0,p1,p2,p3,v,p4];rfl,?_⟩
    simp only[go_sem])
  (λi x hx hP=>by
   have hg:(s.Bc.map Gc.enc)[i]?=some (.agg [.str x.Id,.str x.Fa,.str x.Ev,I x.bg,I x.An.N,.str x.An.bk,I x.An.Num,I x.An.Den,I x.bf.X,I x.bf.Y,I x.From,I x.Ld,.isl false x.After.ex 1<|x.After.l.map encS,I x.Why,I x.br,.str x.Veil]):=Z6 (f:=Gc.enc) hx;have hlt:=Zh<|Z7 hx;have hm:=ZWu hx;have hd:=hs.toStE.doors x hm;have hw:=Zx (n:=i) (by have:=Z7 hx;have:=hs.toStE.sizes.doors;omega)
   have h0:=ZOk x.bg;have h1:=ZOn x.Ld<|-1;have h2:=ZOn x.From 0;have h3:pfn rE 56 [stA s,I i]=some (.bool<|ZPA s i x):=ZS7 s hs.toStE.sizes i x hx hd;have h4:pfn rE 57 [stA s,.agg [.str x.Id,.str x.Fa,.str x.Ev,I x.bg,I x.An.N,.str x.An.bk,I x.An.Num,I x.An.Den,I x.bf.X,I x.bf.Y,I x.From,I x.Ld,.isl false x.After.ex 1<|x.After.l.map encS,I x.Why,I x.br,.str x.Veil]]=some (.bool<|ZP0 s x):=ZS5 s hs.toStE.sizes x hd;have h5:pfn rE 58 [.agg [.str x.Id,.str x.Fa,.str x.Ev,I x.bg,I x.An.N,.str x.An.bk,I x.An.Num,I x.An.Den,I x.bf.X,I x.bf.Y,I x.From,I x.Ld,.isl false x.After.ex 1<|x.After.l.map encS,I x.Why,I x.br,.str x.Veil]]=some (.bool<|ZON x):=ZS4 x hd;have hP':(ZD x.bg 0 63&&(ZD x.Ld (-1) 100000&&(ZD x.From 0 100000&&(ZPA s i x&&(bif Z3 x.Veil emp then ZP0 s x else ZON x)))))=false:=hP;cases p0:ZD x.bg 0 63 with
   |false=>
    refine⟨_,by simp only[go_sem,c22L3b,hg,hlt,hw,h0,h1,h2,h3,h4,h5,ZWd,ZWg,ZWi,p0];rfl,?_⟩
    simp only[go_sem]
   |true=>
   cases p1:ZD x.Ld (-1) 100000 with
   |false=>
    refine⟨_,by simp only[go_sem,c22L3b,hg,hlt,hw,h0,h1,h2,h3,h4,h5,ZWd,ZWg,ZWi,p0,p1];rfl,?_⟩
    simp only[go_sem]
   |true=>
   cases p2:ZD x.From 0 100000 with
   |false=>
    refine⟨_,by simp only[go_sem,c22L3b,hg,hlt,hw,h0,h1,h2,h3,h4,h5,ZWd,ZWg,ZWi,p0,p1,p2];rfl,?_⟩
    simp only[go_sem]
   |true=>
   cases p3:ZPA s i x with
   |false=>
    refine⟨_,by simp only[go_sem,c22L3b,hg,hlt,hw,h0,h1,h2,h3,h4,h5,ZWd,ZWg,ZWi,p0,p1,p2,p3];rfl,?_⟩
    simp only[go_sem]
   |true=>
   rw[p0,p1,p2,p3,ZWf,ZWf,ZWf,ZWf]at hP';cases v:Z3 x.Veil emp with
   |true=>
    rw[v,cond_true]at hP';refine⟨_,by simp only[go_sem,c22L3b,hg,hlt,hw,h0,h1,h2,h3,h4,h5,ZWd,ZWg,ZWi,p0,p1,p2,p3,v,hP'];rfl,?_⟩
    simp only[go_sem]
   |false=>
    rw[v,cond_false]at hP';refine⟨_,by simp only[go_sem,c22L3b,hg,hlt,hw,h0,h1,h2,h3,h4,h5,ZWd,ZWg,ZWi,p0,p1,p2,p3,v,hP'];rfl,?_⟩
    simp only[go_sem])
  (⟨_,by simp only[go_sem,c22L3b,ZG,ZWd];rfl,by simp only[go_sem]⟩)
def uwB(x:bc)(d:Bool):Bool:=bif x.Ld==-1 then(x.Why==0&&d)else(x.Why==12||x.Why==11)
def ZOG(s:Sta)(x:bc):Bool:=ZD x.Ld (-1) 100000&&(ZD x.From 0 100000&&(Q9 {Vn x with bp:=7}&&(!decide (Zn s x.Gc<0)&&uwB x (QN s (Zn s x.Gc)==-1))))
def ZUB(s:Sta)(x:bc):ZOG s x=Vs s x:=by
 have w:ZD 0 0 63=true:=rfl;unfold ZOG Vs Jw uwB QM;rw[w];simp only[bne];cases decide (Zn s x.Gc<0)<;>cases ZD x.Ld (-1) 100000<;>cases ZD x.From 0 100000<;>cases Q9 {Vn x with bp:=7}<;>cases(x.Ld==-1)<;>cases(x.Why==0)<;>cases(x.Why==12)<;>cases(x.Why==11)<;>cases(QN s (Zn s x.Gc)==-1)<;>rfl
def ZUC(s:Sta)(hs:StR s):∃fr',Zg rE [1,11] c22L4b [(1,stI s),(11,.int .i64 0)] []=some (if s.Nk.all (ZOG s)=true then .exit 8 else .ret,fr',[])/\(s.Nk.all (ZOG s)=false->get fr' 2=.bool false):=by
 have L:=Uf (E:=rE) (live:=[1,11]) (b:=c22L4b) (h:=[]) s.Nk (λ_ x=>ZOG s x) (λi=>[(1,stI s),(11,I i)]) 8 (λfr=>get fr 2=.bool false) (λk=>rfl)
  (λi x hx hP=>by
   have hg:(s.Nk.map bc.enc)[i]?=some (.agg [.str x.Id,.str x.Gc,.str x.Text,I x.From,I x.Ld,I x.Why]):=Z6 (f:=bc.enc) hx;have hlt:=Zh<|Z7 hx;have hm:=ZWu hx;obtain⟨z1,z2,z3⟩:=hs.toStE.units x hm;have hw:=Zx (n:=i) (by have:=Z7 hx;have:=hs.toStE.sizes.units;omega)
   have h0:=ZOn x.Ld<|-1;have h1:=ZOn x.From 0;have h20:=ZOy {Vn x with bp:=7} ⟨⟨by simp[Vn],by simp[Vn],by simp[Vn],by simp[Vn],z1,z2,z3⟩,ZOF _ rfl⟩<|by simp
   have h2:pfn rE 36 [.agg [I 7,I 0,I 0,I 0,I 0,.str x.Id,.str x.Gc,.str x.Text,.isl false false 1 [],.isl false false 3 [],I 0,.str emp,I 0,I 0,I 0,I 0,.isl false false 2 [],.isl false false 7 []]]=some (.bool<|Q9 {Vn x with bp:=7}):=h20
   have h3:=ZPz s hs.toStE.sizes x.Gc;have n0:(x.Why != 0) = !(x.Why==0):=rfl;have n11:(x.Why != 11) = !(x.Why==11):=rfl;have n12:(x.Why != 12) = !(x.Why==12):=rfl;have ne:(x.Ld != -1) = !(x.Ld==-1):=rfl;unfold ZOG at hP;simp only[ZWe,ZWD]at hP;obtain⟨p0,p1,p2,p3,p4⟩:=hP;have hneg:decide (Zn s x.Gc>=0)=true:=by have:=of_decide_eq_false p3;exact decide_eq_true<|by omega
   obtain⟨j,d,hj,hdj⟩:=ZPY _ s.Bc hneg;have hj':Zn s x.Gc=(j:Int):=hj;have hgd:=Z6 (f:=Gc.enc) hdj;rw[show Gc.enc d=Zo d from rfl]at hgd
   have ed:QN s (j:Int)=d.Ld:=by unfold QN;rw[ZYO,hdj]
   have nd:(d.Ld != -1) = !(d.Ld==-1):=rfl;rw[hj']at h3 p3 p4;rw[ed]at p4;unfold Zo at hgd;unfold uwB at p4;cases q:(x.Ld==-1)with
   |true=>
    rw[q,cond_true,ZWe]at p4;refine⟨_,by simp only[go_sem,c22L4b,hg,hlt,hw,h0,h1,h2,h3,ZWd,ZWg,ZWi,n0,n11,n12,ne,nd,hgd,p0,p1,p2,p3,q,p4.1,p4.2];rfl,?_⟩
    simp only[go_sem]
   |false=>
    rw[q,cond_false]at p4;cases y:(x.Why==12)with
    |true=>
     refine⟨_,by simp only[go_sem,c22L4b,hg,hlt,hw,h0,h1,h2,h3,ZWd,ZWg,ZWi,n0,n11,n12,ne,nd,hgd,p0,p1,p2,p3,q,y];rfl,?_⟩
     simp only[go_sem]
    |false=>
     rw[y,ZWl]at p4;refine⟨_,by simp only[go_sem,c22L4b,hg,hlt,hw,h0,h1,h2,h3,ZWd,ZWg,ZWi,n0,n11,n12,ne,nd,hgd,p0,p1,p2,p3,q,y,p4];rfl,?_⟩
     simp only[go_sem])
  (λi x hx hP=>by
   have hg:(s.Nk.map bc.enc)[i]?=some (.agg [.str x.Id,.str x.Gc,.str x.Text,I x.From,I x.Ld,I x.Why]):=Z6 (f:=bc.enc) hx;have hlt:=Zh<|Z7 hx;have hm:=ZWu hx;obtain⟨z1,z2,z3⟩:=hs.toStE.units x hm;have hw:=Zx (n:=i) (by have:=Z7 hx;have:=hs.toStE.sizes.units;omega)
   have h0:=ZOn x.Ld<|-1;have h1:=ZOn x.From 0;have h20:=ZOy {Vn x with bp:=7} ⟨⟨by simp[Vn],by simp[Vn],by simp[Vn],by simp[Vn],z1,z2,z3⟩,ZOF _ rfl⟩<|by simp
   have h2:pfn rE 36 [.agg [I 7,I 0,I 0,I 0,I 0,.str x.Id,.str x.Gc,.str x.Text,.isl false false 1 [],.isl false false 3 [],I 0,.str emp,I 0,I 0,I 0,I 0,.isl false false 2 [],.isl false false 7 []]]=some (.bool<|Q9 {Vn x with bp:=7}):=h20
   have h3:=ZPz s hs.toStE.sizes x.Gc;have n0:(x.Why != 0) = !(x.Why==0):=rfl;have n11:(x.Why != 11) = !(x.Why==11):=rfl;have n12:(x.Why != 12) = !(x.Why==12):=rfl;have ne:(x.Ld != -1) = !(x.Ld==-1):=rfl;unfold ZOG at hP;cases p0:ZD x.Ld (-1) 100000 with
   |false=>
    refine⟨_,by simp only[go_sem,c22L4b,hg,hlt,hw,h0,h1,h2,h3,ZWd,ZWg,ZWi,n0,n11,n12,ne,p0];rfl,?_⟩
    simp only[go_sem]
   |true=>
   cases p1:ZD x.From 0 100000 with
   |false=>
    refine⟨_,by simp only[go_sem,c22L4b,hg,hlt,hw,h0,h1,h2,h3,ZWd,ZWg,ZWi,n0,n11,n12,ne,p0,p1];rfl,?_⟩
    simp only[go_sem]
   |true=>
   cases p2:Q9 {Vn x with bp:=7}with
   |false=>
    refine⟨_,by simp only[go_sem,c22L4b,hg,hlt,hw,h0,h1,h2,h3,ZWd,ZWg,ZWi,n0,n11,n12,ne,p0,p1,p2];rfl,?_⟩
    simp only[go_sem]
   |true=>
   cases p3:decide (Zn s x.Gc<0)with
   |true=>
    refine⟨_,by simp only[go_sem,c22L4b,hg,hlt,hw,h0,h1,h2,h3,ZWd,ZWg,ZWi,n0,n11,n12,ne,p0,p1,p2,p3];rfl,?_⟩
    simp only[go_sem]
   |false=>
   have hneg:decide (Zn s x.Gc>=0)=true:=by have:=of_decide_eq_false p3;exact decide_eq_true<|by omega
   obtain⟨j,d,hj,hdj⟩:=ZPY _ s.Bc hneg;have hj':Zn s x.Gc=(j:Int):=hj;have hgd:=Z6 (f:=Gc.enc) hdj;rw[show Gc.enc d=Zo d from rfl]at hgd
   have ed:QN s (j:Int)=d.Ld:=by unfold QN;rw[ZYO,hdj]
   have nd:(d.Ld != -1) = !(d.Ld==-1):=rfl;rw[p0,p1,p2,p3,ZWi,ZWf,ZWf,ZWf,ZWf,hj',ed]at hP;rw[hj']at h3 p3;unfold Zo at hgd;unfold uwB at hP;cases q:(x.Ld==-1)with
   |true=>
    rw[q,cond_true]at hP;cases y:(x.Why==0)with
    |false=>
     refine⟨_,by simp only[go_sem,c22L4b,hg,hlt,hw,h0,h1,h2,h3,ZWd,ZWg,ZWi,n0,n11,n12,ne,nd,hgd,p0,p1,p2,p3,q,y];rfl,?_⟩
     simp only[go_sem]
    |true=>
     rw[y,ZWf]at hP;refine⟨_,by simp only[go_sem,c22L4b,hg,hlt,hw,h0,h1,h2,h3,ZWd,ZWg,ZWi,n0,n11,n12,ne,nd,hgd,p0,p1,p2,p3,q,y,hP];rfl,?_⟩
     simp only[go_sem]
   |false=>
    rw[q,cond_false,ZXJ]at hP;refine⟨_,by simp only[go_sem,c22L4b,hg,hlt,hw,h0,h1,h2,h3,ZWd,ZWg,ZWi,n0,n11,n12,ne,nd,hgd,p0,p1,p2,p3,q,hP.1,hP.2];rfl,?_⟩
    simp only[go_sem])
  (⟨_,by simp only[go_sem,c22L4b,ZG,ZWd];rfl⟩)
 rw[QE]at L;exact L
def ZOP(s:Sta)(hs:StR s):pfn rE 22 [stA s]=some (.bool<|Jx s):=by
 have hz:=hs.toStE.sizes;have e:Jx s=(Jq (Qp s)&&(WK s&&(Wh s.Bc&&(s.Ga.all rgR&&(s.Gr.all stR&&(s.By.all buR&&(Zu (ZOO s) 0 s.Bc&&s.Nk.all (ZOG s)))))))):=by
  unfold Jx;rw[show s.Ga.all Vo=s.Ga.all rgR from ZOu λx _=>(ZUu x).symm,show s.Gr.all Vp=s.Gr.all stR from ZOu λx _=>(ZUw x).symm,
   show s.By.all Vq=s.By.all buR from ZOu λx _=>(ZUy x).symm,show s.Nk.all (Vs s)=s.Nk.all (ZOG s)from ZOu λx _=>(ZUB s x).symm,
   show Zu (Vr s) 0 s.Bc=Zu (ZOO s) 0 s.Bc from ZPc _ _ λi x=>(ZUb s i x).symm]
  cases Jq (Qp s)<;>cases WK s<;>cases Wh s.Bc<;>simp
 have hu:=ZUm s hz;have hp:=ZUt s hz hs.mg;have hn:=ZUc s hz;rw[ZUe]at hn;obtain⟨f0,L0,a0,b0⟩:=ZUv s hs;obtain⟨f1,L1,a1,b1⟩:=ZUx s hs;obtain⟨f2,L2,a2,b2⟩:=ZUz s hs;obtain⟨f3,L3,a3,b3⟩:=ZUA s hs;obtain⟨f4,L4,b4⟩:=ZUC s hs;rw[Z5 (f:=22) rfl rfl,e];cases c0:Jq (Qp s)with
 |false=>simp only[go_sem,c22,hu,hp,hn,c0,ZWg,ZWi,ZWf,ZWh,ZWn,if_false,if_true]
 |true=>
 cases c1:WK s with
 |false=>simp only[go_sem,c22,hu,hp,hn,c0,c1,ZWg,ZWi,ZWf,ZWh,ZWn,if_false,if_true]
 |true=>
 cases c2:Wh s.Bc with
 |false=>simp only[go_sem,c22,hu,hp,hn,c0,c1,c2,ZWg,ZWi,ZWf,ZWh,ZWn,if_false,if_true]
 |true=>
 cases d0:s.Ga.all rgR with
 |false=>rw[d0]at L0;simp only[go_sem,c22,c22L0,hu,hp,hn,c0,c1,c2,L0,b0 d0,ZWg,ZWi,ZWf,ZWh,ZWn,if_false,if_true]
 |true=>
 rw[d0]at L0;cases d1:s.Gr.all stR with
 |false=>rw[d1]at L1;simp only[go_sem,c22,c22L0,c22L1,hu,hp,hn,c0,c1,c2,L0,a0 d0,L1,b1 d1,ZWg,ZWi,ZWf,ZWh,ZWn,if_false,if_true]
 |true=>
 rw[d1]at L1;cases d2:s.By.all buR with
 |false=>rw[d2]at L2;simp only[go_sem,c22,c22L0,c22L1,c22L2,hu,hp,hn,c0,c1,c2,L0,a0 d0,L1,a1 d1,L2,b2 d2,ZWg,ZWi,ZWf,ZWh,ZWn,if_false,if_true]
 |true=>
 rw[d2]at L2;cases d3:Zu (ZOO s) 0 s.Bc with
 |false=>rw[d3]at L3;simp only[go_sem,c22,c22L0,c22L1,c22L2,c22L3,hu,hp,hn,c0,c1,c2,L0,a0 d0,L1,a1 d1,L2,a2 d2,L3,b3 d3,ZWg,ZWi,ZWf,ZWh,ZWn,if_false,if_true]
 |true=>
 rw[d3]at L3;cases d4:s.Nk.all (ZOG s)with
 |false=>rw[d4]at L4;simp only[go_sem,c22,c22L0,c22L1,c22L2,c22L3,c22L4,hu,hp,hn,c0,c1,c2,L0,a0 d0,L1,a1 d1,L2,a2 d2,L3,a3 d3,L4,b4 d4,ZWg,ZWi,ZWf,ZWh,ZWn,if_false,if_true]
 |true=>
 rw[d4]at L4;simp only[go_sem,c22,c22L0,c22L1,c22L2,c22L3,c22L4,hu,hp,hn,c0,c1,c2,L0,a0 d0,L1,a1 d1,L2,a2 d2,L3,a3 d3,L4,ZWg,ZWi,ZWf,ZWh,ZWn,if_false,if_true]
def ZOQ(a:Int):pfn rE 27 [I a]=some (.bool<|Zoz a):=by
 have e:decide (a>=0)=decide (0<=a):=rfl;rw[Z5 (f:=27) rfl rfl];unfold Zoz;cases h:decide (0<=a)<;>rw[h]at e<;>simp only[go_sem,c27,e,h,ZWf,ZWh]
def ZSf(bw ex:Bool)(l:List Int)(hl:l.length<=1000000)(n:Int):pfn rE 41 [.isl bw ex 1<|l.map I,I n]=some (.bool<|l.any<|λx=>x==n):=by
 have L:=QT (E:=rE) (live:=[0,1,5]) (b:=c41L0b) (h:=[]) l (λ_ x=>!(x==n)) (λi=>[(0,.isl bw ex 1<|l.map I),(1,I n),(5,I i)]) 0 (λ_=>True) (λfr=>get fr 4=.bool true) (λi=>rfl)
  (λi x hx hP=>by
   have hg:=Z6 (f:=I) hx;have hi':=Zh<|Z7 hx;have hw:=Zx (n:=i) (by have:=Z7 hx;omega)
   have hP':(x==n)=false:=by simpa using hP
   refine⟨_,by simp only[go_sem,c41L0b,hg,hi',hw,hP'];rfl,?_⟩
   simp only[go_sem])
  (λi x hx hP=>by
   have hg:=Z6 (f:=I) hx;have hi':=Zh<|Z7 hx;have hP':(x==n)=true:=by simpa using hP
   refine⟨_,by simp only[go_sem,c41L0b,hg,hi',hP'];rfl,?_⟩
   simp only[go_sem])
  (⟨_,by simp only[go_sem,c41L0b,ZG];rfl,trivial⟩)
 rw[QE]at L;obtain⟨fr',h1,_,h2⟩:=L;have h1':Zg rE [0,1,5] c41L0b [(0,.isl bw ex 1<|l.map I),(1,I n),(5,.int .i64 0)] []=_:=h1;have e:l.any (λx=>x==n) = !l.all (λx=>!(x==n)):=by rw[ZYh];simp
 rw[Z5 (f:=41) rfl rfl,e];cases hc:l.all (λx=>!(x==n))with
 |true=>rw[hc]at h1';simp only[go_sem,c41,c41L0,h1',ZWg]
 |false=>rw[hc]at h1';simp only[go_sem,c41,c41L0,h1',h2 hc,ZWn,ZWi]
def ZPB(bw ex:Bool)(l:List Str)(hl:l.length<=1000000)(id:Str):pfn rE 87 [.isl bw ex 1<|l.map encS,.str id]=some (.bool<|l.any<|λx=>Z3 x id):=by
 have L:=QT (E:=rE) (live:=[0,1,5]) (b:=c87L0b) (h:=[]) l (λ_ x=>!Z3 x id) (λi=>[(0,.isl bw ex 1<|l.map encS),(1,.str id),(5,I i)]) 0 (λ_=>True) (λfr=>get fr 4=.bool true) (λi=>rfl)
  (λi x hx hP=>by
   have hg:=Z6 (f:=encS) hx;have hi':=Zh<|Z7 hx;have hw:=Zx (n:=i) (by have:=Z7 hx;omega)
   have hP':Z3 x id=false:=by simpa using hP
   refine⟨_,by simp only[go_sem,c87L0b,hg,hi',hw,encS,hP'];rfl,?_⟩
   simp only[go_sem])
  (λi x hx hP=>by
   have hg:=Z6 (f:=encS) hx;have hi':=Zh<|Z7 hx;have hP':Z3 x id=true:=by simpa using hP
   refine⟨_,by simp only[go_sem,c87L0b,hg,hi',encS,hP'];rfl,?_⟩
   simp only[go_sem])
  (⟨_,by simp only[go_sem,c87L0b,ZG];rfl,trivial⟩)
 rw[QE]at L;obtain⟨fr',h1,_,h2⟩:=L;have h1':Zg rE [0,1,5] c87L0b [(0,.isl bw ex 1<|l.map encS),(1,.str id),(5,.int .i64 0)] []=_:=h1;have e:l.any (λx=>Z3 x id) = !l.all (λx=>!Z3 x id):=by rw[ZYh];simp
 rw[Z5 (f:=87) rfl rfl,e];cases hc:l.all (λx=>!Z3 x id)with
 |true=>rw[hc]at h1';simp only[go_sem,c87,c87L0,h1',ZWg]
 |false=>rw[hc]at h1';simp only[go_sem,c87,c87L0,h1',h2 hc,ZWn,ZWi]
def ZSg(s:Sta)(hs:StS s)(hp:WK s=true)(b:Int):∀(n:Nat)(a:Int),ZoL (Zos s.Gk) n a=some b->
 ∃fr',Zg rE [1,2,5] c28L0b [(1,I a),(2,stI s),(5,I<|XJ s a)] []=some (.exit 0,fr',[])/\get fr' 1=I b
 |0,a,h=>by cases h
 |n+1,a,h=>by
  unfold ZoL at h;rw[ZpD hp]at h;have hk:=λx=>ZQr s hs x
  have ge:decide (XJ s a>=0) = !decide (XJ s a<0):=by by_cases h:XJ s a<0<;>simp[h]<;>omega
  cases hl:decide (XJ s a<0)with
  |true=>
   rw[hl]at h ge;cases h;refine⟨_,Q7 rfl (e:=.exit 0) (by simp only[go_sem,c28L0b,ge,ZWg];rfl) (by simp),by simp only[go_sem]⟩
  |false=>
   rw[hl]at h ge;simp only[cond_false]at h;obtain⟨fr',h1,h2⟩:=ZSg s hs hp b n _ h;refine⟨fr',?_,h2⟩;have hk1:=hk<|XJ s a;simp only[stA]at hk1;rw[Yt rfl (fr':=[(1,I<|XJ s a),(2,stI s),(5,I<|XJ s<|XJ s a)]) (h':=[]) (by simp only[go_sem,c28L0b,ge,hk1,ZWi])]
   exact h1
def ZOl(s:Sta)(hE:StE s)(hp:WK s=true)(a:Int)(ha:0<=a):pfn rE 28 [stA s,I a]=some (I<|Zoq s a):=by
 obtain⟨fr',h1,h2⟩:=ZSg s hE.sizes hp _ _ a<|ZpF hp ha;have hk:=ZQr s hE.sizes a;simp only[stI,stA]at h1 hk⊢;rw[Z5 (f:=28) rfl rfl];simp only[go_sem,c28,c28L0,hk,h1,h2]
def ZUD(s:Sta)(hR:StR s)(a:Int):pfn rE 9 [stA s,I a]=some (I<|bif Jx s&&Zoz a then Zoq s a else -1):=by
 have hO:=ZOP s hR;have hA:=ZOQ a;simp only[stA]at hO⊢;rw[Z5 (f:=9) rfl rfl];cases c1:Jx s with
 |false=>
  rw[c1]at hO;simp only[go_sem,c9,hO,ZWi,ZWh,cond_false]
 |true=>
 rw[c1]at hO;cases c2:Zoz a with
 |false=>
  rw[c2]at hA;simp only[go_sem,c9,hO,hA,ZWi,ZWg,ZWm,cond_false]
 |true=>
  rw[c2]at hA;have hM:=ZOl s hR.toStE ((Zdb s).1 c1).1.pa a (Zpf c2).1;simp only[stA]at hM;simp only[go_sem,c9,hO,hA,hM,ZWg,ZWk,cond_true]
def rcL(s:Sta)(p:Pt)(l:List Gm):List Int:=(l.filter<|Zuv p).map (λx=>Zoq s x.bg)
def ZSh(s:Sta)(p:Pt)(l:List Gm):(rcL s p l).length<=l.length:=by unfold rcL;rw[ZWd];exact ZXi _ _
def ZUE(s:Sta)(hE:StE s)(hp:Jx s=true)(p:Pt):∃fr',Zg rE [2,3,5,6] c24L0b [(2,stI s),(3,.iptr false [I p.X,I p.Y]),(5,.sl 0 0 0 0 false),(6,.int .i64 0)] [.row 1 []] =
 some (.exit 0,fr',[.row 1<|(rcL s p s.Ga).map I])/\get fr' 5=.sl 0 (rcL s p s.Ga).length 0 (rcL s p s.Ga).length false:=by
 have hbI:∀(D:List Int)n,Zd n (D.map I)=true:=λD n=>ZN _<|Zw (λt=>rfl) D
 have L:=Y8 (E:=rE) (live:=[2,3,5,6]) (b:=c24L0b) s.Ga.length (λi=>[(2,stI s),(3,.iptr false [I p.X,I p.Y]),(5,.sl 0 (rcL s p<|s.Ga.take i).length 0 (rcL s p<|s.Ga.take i).length false),(6,I i)])
  (λi=>[.row 1<|(rcL s p<|s.Ga.take i).map I]) (λi=>rfl)
  (λi hi=>by
   obtain⟨x,hx⟩:∃x,s.Ga[i]?=some x:=⟨_,ZWq hi⟩;have hl:=hE.sizes.regions;have hlen:(rcL s p<|s.Ga.take i).length<=i:=ZWW (ZSh s p _)<|by rw[ZWS];omega
   have hg:=Z6 (f:=Gm.enc) hx;have hi':=Zh hi;have hwr:=Zx (n:=i)<|by omega
   have htk:rcL s p (s.Ga.take<|i+1)=rcL s p (s.Ga.take i)++bif Zuv p x then [Zoq s x.bg]else []:=by
    unfold rcL;rw[ZX9,hx,ZXG,ZWC];cases h:Zuv p x<;>simp[h]
   have hW:=ZSX x.Ring.l x.Ring.ex (by have:=(hE.regions x<|ZWu hx).2.1;omega) p
   have hM:=ZOl s hE ((Zdb s).1 hp).1.pa x.bg (ClS.reg ⟨hE,hp⟩<|ZWu hx).1;simp only[stA]at hM;rw[htk];have ec:Zuv p x=((x.bp==1&&x.Ld==-1)&&decide (ZoY x.Ring.l p>=0)):=rfl;generalize hes:rcL s p (s.Ga.take i)=es at*;have ha:=λ(q:AObj)=>XC (h:=[.row 1<|es.map I,q]) (fz:=false) (b:=0) (g:=es.length) (sz:=1) (bytes:=8) (es:=es.map I) (bw:=false) (ex:=false) (ys:=[I<|Zoq s x.bg]) (by show(bif (es.map I).length==es.length then _ else none)=_;rw[ZWd,beq_self_eq_true];rfl) rfl rfl (by decide) (by decide) (by simp;omega)
   have hma:(es++[Zoq s x.bg]).map I=es.map I++[I<|Zoq s x.bg]:=by rw[ZWC];rfl
   have hb1:=hbI es;have hb2:∀n,Zd n (es.map I++[I<|Zoq s x.bg])=true:=λn=>by rw[<-hma];exact hbI _ n
   rw[ec];cases k1:x.bp==1 with
   |false=>exact⟨_,by simp only[go_sem,c24L0b,stI,hg,hi',hwr,hb1,k1,Gm.enc,NL.enc,ZWh,cond_false,ZWG];rfl,by simp only[go_sem,stI,ZWh,cond_false,ZWG]⟩
   |true=>
   cases k2:x.Ld==-1 with
   |false=>exact⟨_,by simp only[go_sem,c24L0b,stI,hg,hi',hwr,hb1,k1,k2,Gm.enc,NL.enc,ZWh,ZWm,cond_false,ZWG];rfl,by simp only[go_sem,stI,ZWh,ZWm,cond_false,ZWG]⟩
   |true=>
   cases k3:decide (ZoY x.Ring.l p>=0)with
   |false=>exact⟨_,by simp only[go_sem,c24L0b,stI,hg,hi',hwr,hb1,hW,k1,k2,k3,Gm.enc,NL.enc,ZWm,cond_false,ZWG];rfl,by simp only[go_sem,stI,ZWm,cond_false,ZWG]⟩
   |true=>exact⟨_,by simp only[go_sem,c24L0b,stI,hg,hi',hwr,hb1,hb2,hW,hM,ha,k1,k2,k3,Gm.enc,NL.enc,ZWO,cond_true,hma];rfl,by simp only[go_sem,stI,ZWO,cond_true,ZWx,ZWJ,ZWN]⟩)
  (e:=.exit 0) (fr:=[(2,stI s),(3,.iptr false [I p.X,I p.Y]),(5,.sl 0 (rcL s p s.Ga).length 0 (rcL s p s.Ga).length false),(6,I s.Ga.length)]) (h:=[.row 1<|(rcL s p s.Ga).map I]) (by
   have hb1:=hbI<|rcL s p s.Ga;rw[ZWL];simp only[go_sem,c24L0b,stI,ZG,hb1,ZWd]) (by simp)
 exact⟨_,L,rfl⟩
def rcO(A:List Int)(n:Nat):List Int:=((List.range n).filter (λa:Nat=>A.any<|λx=>x==(a:Int))).map (λa:Nat=>(a:Int))
def ZUF(A:List Int)(n:Nat):(rcO A n).length<=n:=by unfold rcO;rw[ZWd];exact ZWW (ZXi _ _)<|by rw[ZXY];omega
def ZUG(A:List Int)(hA:A.length<=1000):∃fr',Zg rE [5,8,9] c24L1b [(5,.sl 0 A.length 0 A.length false),(8,.sl 1 0 0 0 false),(9,.int .i64 0)] [.row 1<|A.map I,.row 1 []] =
 some (.exit 2,fr',[.row 1<|A.map I,.row 1<|(rcO A 64).map I])/\get fr' 8=.sl 1 (rcO A 64).length 0 (rcO A 64).length false:=by
 have hbI:∀(D:List Int)n,Zd n (D.map I)=true:=λD n=>ZN _<|Zw (λt=>rfl) D
 have hcI:∀D:List Int,Z4 (D.map I)=true:=λD=>Zw (λt=>rfl) _
 have htA:List.take A.length (A.map I)=A.map I:=ZWP<|by simp
 have L:=Y8 (E:=rE) (live:=[5,8,9]) (b:=c24L1b) 64 (λi=>[(5,.sl 0 A.length 0 A.length false),(8,.sl 1 (rcO A i).length 0 (rcO A i).length false),(9,I i)])
  (λi=>[.row 1<|A.map I,.row 1<|(rcO A i).map I]) (λi=>rfl)
  (λi hi=>by
   have hlen:=ZUF A i;have hlt:decide ((i:Int)<=63)=true:=decide_eq_true<|by omega
   have hwr:=Zx (n:=i)<|by omega
   have hh:=ZSf true false A (by omega) (i:Int)
   have htk:rcO A (i+1)=rcO A i++bif A.any (λx=>x==(i:Int))then [(i:Int)]else []:=by
    unfold rcO;rw[ZXX,ZXG,ZWC];cases h:A.any (λx=>x==(i:Int))<;>simp[h]
   rw[htk];generalize rcO A i=es at*;have ha:=XC (h:=[.row 1<|A.map I,.row 1<|es.map I]) (fz:=false) (b:=1) (g:=es.length) (sz:=1) (bytes:=8) (es:=es.map I) (bw:=false) (ex:=false) (ys:=[I (i:Int)]) (by show(bif (es.map I).length==es.length then _ else none)=_;rw[ZWd,beq_self_eq_true];rfl) rfl rfl (by decide) (by decide) (by simp;omega)
   have hma:(es++[(i:Int)]).map I=es.map I++[I (i:Int)]:=by rw[ZWC];rfl
   have hb1:=hbI es;have hb0:=hbI A;have hb2:∀n,Zd n (es.map I++[I (i:Int)])=true:=λn=>by rw[<-hma];exact hbI _ n
   cases k:A.any (λx=>x==(i:Int))with
   |false=>rw[k]at hh;exact⟨_,by simp only[go_sem,c24L1b,hlt,hwr,hb0,hb1,hcI,htA,hh,ZWd,ZWA,beq_self_eq_true,cond_false,ZWG];rfl,by simp only[go_sem,cond_false,ZWG]⟩
   |true=>rw[k]at hh;exact⟨_,by simp only[go_sem,c24L1b,hlt,hwr,hb0,hb1,hb2,hcI,htA,hh,ha,ZWd,ZWA,beq_self_eq_true,cond_true,hma];rfl,by simp only[go_sem,cond_true,ZWx,ZWJ,ZWN]⟩)
  (e:=.exit 2) (fr:=[(5,.sl 0 A.length 0 A.length false),(8,.sl 1 (rcO A 64).length 0 (rcO A 64).length false),(9,I (64:Nat))]) (h:=[.row 1<|A.map I,.row 1<|(rcO A 64).map I]) (by
   have hlt:decide (((64:Nat):Int)<=63)=false:=rfl;have hb1:=hbI<|rcO A 64;have hb0:=hbI A;simp only[go_sem,c24L1b,hlt,hb1,hb0]) (by simp)
 exact⟨_,L,rfl⟩
def ZSi:∀{l r:List Int},l.Pairwise (λa b=>a<b)->r.Pairwise (λa b=>a<b)->(∀x,x∈l↔x∈r)->l=r
 |[],[],_,_,_=>rfl
 |[],b::r,_,_,h=>by have:=(h b).2 (ZXh ..);cases this
 |a::l,[],_,_,h=>by have:=(h a).1 (ZXh ..);cases this
 |a::l,b::r,h1,h2,h=>by
  rw[ZXB]at h1 h2;have e:a=b:=by
   rcases ZWF.1 ((h a).1 (ZXh ..))with k|k
   .exact k
   .rcases ZWF.1 ((h b).2 (ZXh ..))with q|q
    .exact q.symm
    .have:=h1.1 b q;have:=h2.1 a k;omega
  subst e;rw[ZSi h1.2 h2.2 (λx=>by
   constructor
   .intro hx;rcases ZWF.1 ((h x).1 (ZXz _ hx))with k|k
    .subst k;exact absurd (h1.1 x hx)<|by omega
    .exact k
   .intro hx;rcases ZWF.1 ((h x).2 (ZXz _ hx))with k|k
    .subst k;exact absurd (h2.1 x hx)<|by omega
    .exact k)]
def ZUH(s:Sta)(hE:StE s)(hp:Jx s=true)(p:Pt):rcO (rcL s p s.Ga) 64=ZoH s p:=by
 refine ZSi ?_ (ZuH s p)<|λx=>?_
 .unfold rcO;rw[ZYr];refine(List.Pairwise.filter _ List.pairwise_lt_range).imp (λh=>by omega)
 .rw[Zuy];unfold rcO rcL;rw[ZX4];constructor
  .rintro⟨a,ha,rfl⟩;rw[ZXu,ZYl]at ha;obtain⟨_,z,hz,e⟩:=ha;rw[ZX4]at hz;obtain⟨y,hy,rfl⟩:=hz;rw[ZXu]at hy;exact⟨y,hy.1,hy.2,eq_of_beq e⟩
  .rintro⟨y,hy,h1,rfl⟩;have hr:=ClS.reg ⟨hE,hp⟩ hy;have:=ZpH ((Zdb s).1 hp).1.pa hr;refine⟨(Zoq s y.bg).toNat,?_,by omega⟩
   rw[ZXu,ZXA,ZYl];refine⟨by omega,Zoq s y.bg,?_,?_⟩
   .rw[ZX4];exact⟨y,ZXu.2 ⟨hy,h1⟩,rfl⟩
   .rw[beq_iff_eq];omega
def ZSj(s:Sta)(hE:StE s)(hp:Jx s=true)(p:Pt):pfn rE 24 [stA s,.agg [I p.X,I p.Y]]=some (.isl false false 1<|(ZoH s p).map I):=by
 obtain⟨fr1,h1,g1⟩:=ZUE s hE hp p;have hA:(rcL s p s.Ga).length<=1000:=ZWW (ZSh s p _) hE.sizes.regions;obtain⟨fr2,h2,g2⟩:=ZUG (rcL s p s.Ga) hA;rw[ZUH s hE hp p]at h2 g2;have hbI:∀(D:List Int)n,Zd n (D.map I)=true:=λD n=>ZN _<|Zw (λt=>rfl) D
 have hcI:∀D:List Int,Z4 (D.map I)=true:=λD=>Zw (λt=>rfl) _
 have hb0:=hbI<|rcL s p s.Ga;have hb1:=hbI<|ZoH s p;have htA:List.take (ZoH s p).length ((ZoH s p).map I)=(ZoH s p).map I:=ZWP<|by simp
 generalize rcL s p s.Ga=A at*;simp only[stI]at h1;rw[Z5 (f:=24) rfl rfl];simp only[go_sem,c24,c24L0,c24L1,stA,h1,g1,h2,g2,hb0,hb1,hcI,htA,ZWd,ZWA,beq_self_eq_true]
def ZUI(s:Sta)(hR:StR s)(p:Pt):pfn rE 7 [stA s,.agg [I p.X,I p.Y]]=some (.tup [.isl false false 1<|(Zpg s p).map I,I<|Zph s p]):=by
 have hO:=ZOP s hR;have hG:=ZO4 p;have hC:Z4 ((ZoH s p).map I)=true:=Zw (λt=>rfl) _
 simp only[stA]at hO⊢;unfold Zpg Zph;rw[Z5 (f:=7) rfl rfl];cases c:Jx s with
 |false=>
  rw[c]at hO;simp only[go_sem,c7,hO,ZWi,ZWh,cond_false,ZWB]
 |true=>
 rw[c]at hO;cases c1:gOn p with
 |false=>
  rw[c1]at hG;simp only[go_sem,c7,hO,hG,ZWi,ZWg,ZWm,cond_false,ZWB]
 |true=>
 rw[c1]at hG;have hK:=ZSj s hR.toStE c p;simp only[stA]at hK;simp only[go_sem,c7,hO,hG,hK,hC,ZWg,ZWk,cond_true]
def rpS(m:Int->Int)(x y:Int)(b:Bool)(p:be):Bool:=bif m p.a==y&&m p.b==x then false else bif m p.a==x&&m p.b==y then true else b
def ZUJ(m:Int->Int)(x y:Int)(h:(x != y)=true)(l:List be):l.foldl (rpS m x y) false=(ZoE m x y l.reverse).getD false:=by
 suffices H:∀l:List be,l.reverse.foldl (rpS m x y) false=(ZoE m x y l).getD false by
  have:=H l.reverse
  rwa[List.reverse_reverse]at this
 intro l;induction l with
 |nil=>rfl
 |cons p l ih=>
  rw[List.reverse_cons,ZYf,ZXb,List.foldl_nil,ih];unfold rpS;rw[ZoE];have hx:x≠y:=by simpa using h
  cases c1:(m p.a==x&&m p.b==y)with
  |true=>
   rw[ZWe,beq_iff_eq,beq_iff_eq]at c1;have:(m p.a==y&&m p.b==x)=false:=by rw[c1.1];simp[hx]
   rw[this,h];rfl
  |false=>cases(m p.a==y&&m p.b==x)<;>rfl
def rpT(s:Sta)(a b:Int):Bool:=ZoW s (Zoq s a)<|Zoq s b
def ZUK{s:Sta}(h:ClS s):∀p∈s.Wk,0<=p.a/\0<=p.b:=by
 intro p hp;have hpa:=h.prop.pa;unfold WK at hpa;simp only[ZWe]at hpa;have:=Zpo<|ZWw.1 hpa.2.1 p hp;exact⟨this.1.1,this.2.1⟩
def ZUL(s:Sta)(h:ClS s)(x y:Int):∃fr',Zg rE [3,7,8,9,10] c30L0b [(3,stI s),(7,I x),(8,I y),(9,.bool false),(10,.int .i64 0)] []=some (.exit 0,fr',[])/\get fr' 9=.bool (ZoW s x y):=by
 cases hxy:x != y with
 |false=>
  have e:x=y:=by simpa using hxy
  have hp:ZoW s x y=false:=by
   unfold ZoW;subst e;have:∀l:List be,(ZoE (Zoq s) x x l).getD false=false:=λl=>by
    induction l with
    |nil=>rfl
    |cons p r ih=>
     rw[ZoE];cases(Zoq s p.a==x&&Zoq s p.b==x)with
     |true=>simp
     |false=>exact ih
   exact this _
  rw[hp];cases hl:decide ((0:Int)<(s.Wk.length:Int))with
  |true=>exact⟨_,Q7 rfl (e:=.exit 0) (by simp only[go_sem,c30L0b,stI,hl,hxy,ZWd];rfl) (by simp),by simp only[go_sem]⟩
  |false=>exact⟨_,Q7 rfl (e:=.exit 0) (by simp only[go_sem,c30L0b,stI,hl,hxy,ZWd];rfl) (by simp),by simp only[go_sem]⟩
 |true=>
  have hl:=h.E.sizes.rulings;have L:=Y8 (E:=rE) (live:=[3,7,8,9,10]) (b:=c30L0b) s.Wk.length (λi=>[(3,stI s),(7,I x),(8,I y),(9,.bool<|(s.Wk.take i).foldl (rpS (Zoq s) x y) false),(10,I i)]) (λ_=>[]) (λi=>rfl)
   (λi hi=>by
    obtain⟨p,hx⟩:∃x,s.Wk[i]?=some x:=⟨_,ZWq hi⟩;have hg:=Z6 (f:=be.enc) hx;have hi':=Zh hi;have hwr:=Zx (n:=i)<|by omega
    have hpr:=(h.prop.pa);have hrp:=ZUK h p<|ZWu hx;have m1:=ZOl s h.E h.prop.pa p.a hrp.1;have m2:=ZOl s h.E h.prop.pa p.b hrp.2;simp only[stA]at m1 m2;have htk:(s.Wk.take<|i+1).foldl (rpS (Zoq s) x y) false=rpS (Zoq s) x y ((s.Wk.take i).foldl (rpS (Zoq s) x y) false) p:=by
     rw[ZX9,hx,ZYf];rfl
    rw[htk];generalize(s.Wk.take i).foldl (rpS (Zoq s) x y) false=b;unfold rpS;have z0:((0:Int)<=0/\(0:Int)<((2:Nat):Int))=True:=by simp
    have z1:((0:Int)<=1/\(1:Int)<((2:Nat):Int))=True:=by simp
    have n0:Int.toNat 0=0:=rfl;have n1:Int.toNat 1=1:=rfl;cases c1:Zoq s p.a==x<;>cases c2:Zoq s p.b==y<;>cases c3:Zoq s p.a==y<;>cases c4:Zoq s p.b==x<;>
     exact⟨_,by simp only[go_sem,c30L0b,stI,hg,hi',hwr,hxy,m1,m2,c1,c2,c3,c4,z0,z1,n0,n1,be.enc,ZWd,ZWT,ZWE,ZWA,ZX0,if_true];rfl,by simp only[go_sem,stI,ZWk,ZWm,ZWO,cond_true,cond_false]⟩)
   (e:=.exit 0) (fr:=[(3,stI s),(7,I x),(8,I y),(9,.bool<|ZoW s x y),(10,I s.Wk.length)]) (h:=[]) (by
    rw[ZWL,ZUJ _ _ _ hxy];simp only[go_sem,c30L0b,stI,ZG,ZWd];rfl) (by simp)
  exact⟨_,L,rfl⟩
def ZQu(s:Sta)(h:ClS s)(a b:Int)(ha:0<=a)(hb:0<=b):pfn rE 30 [stA s,I a,I b]=some (.bool<|rpT s a b):=by
 have m1:=ZOl s h.E h.prop.pa a ha;have m2:=ZOl s h.E h.prop.pa b hb;obtain⟨fr',h1,g⟩:=ZUL s h (Zoq s a)<|Zoq s b;simp only[stI]at h1;simp only[stA]at m1 m2⊢;unfold rpT;rw[Z5 (f:=30) rfl rfl];simp only[go_sem,c30,c30L0,m1,m2,h1,g]
def ZUM(s:Sta)(hR:StR s)(a b:Int):pfn rE 12 [stA s,I a,I b]=some (.bool<|Zpe s a b):=by
 have hO:=ZOP s hR;have hA:=ZOQ a;have hB:=ZOQ b;simp only[stA]at hO⊢;unfold Zpe;rw[Z5 (f:=12) rfl rfl];cases c:Jx s with
 |false=>
  rw[c]at hO;simp only[go_sem,c12,hO,ZWh]
 |true=>
 rw[c]at hO;cases c1:Zoz a with
 |false=>
  rw[c1]at hA;simp only[go_sem,c12,hO,hA,ZWh,ZWm]
 |true=>
 rw[c1]at hA;cases c2:Zoz b with
 |false=>
  rw[c2]at hB;simp only[go_sem,c12,hO,hA,hB,ZWh,ZWm]
 |true=>
 rw[c2]at hB;have hP:=ZQu s ⟨hR.toStE,c⟩ a b (Zpf c1).1 (Zpf c2).1;unfold rpT at hP;simp only[stA]at hP;simp only[go_sem,c12,hO,hA,hB,hP,ZWf,ZWk]
def ZUN{E:Env}{α:Type}{live:List Nat}{b:ACode}(l:List α)(P:Nat->α->Bool)(S:Nat->Fr)(H:Nat->Hp)(out:Nat)(Q0:Fr->Prop)(Q:Fr->Hp->Prop)
 (hr:∀i,Z2 live (S i)=S i)
 (good:∀i x,l[i]?=some x->P i x=true->∃fr',Zb E b (S i) (H i)=some (.normal,fr',H<|i+1)/\Z2 live fr'=S (i+1))
 (bad:∀i x,l[i]?=some x->P i x=false->∃fr' h',Zb E b (S i) (H i)=some (.ret,fr',h')/\Q fr' h')
 (last:∃fr',Zb E b (S l.length) (H l.length)=some (.exit out,fr',H l.length)/\Q0 fr'):
 (Zu P 0 l=true->∃fr',Zg E live b (S 0) (H 0)=some (.exit out,fr',H l.length)/\Q0 fr')/\(Zu P 0 l=false->∃fr' h',Zg E live b (S 0) (H 0)=some (.ret,fr',h')/\Q fr' h'):=by
 suffices G:∀(k i:Nat),i+k=l.length->(Zu P i (l.drop i)=true->∃fr',Zg E live b (S i) (H i)=some (.exit out,fr',H l.length)/\Q0 fr')/\(Zu P i (l.drop i)=false->∃fr' h',Zg E live b (S i) (H i)=some (.ret,fr',h')/\Q fr' h')from by
  have:=G l.length 0<|by omega
  rwa[ZWA]at this
 intro k;induction k with
 |zero=>
  intro i hi;have e:i=l.length:=by omega
  subst e;rw[ZYM];refine⟨λ_=>?_,λh=>absurd (show true=false from h)<|by decide⟩
  obtain⟨fr',h1,h2⟩:=last;exact⟨fr',Q7 (hr _) h1 (by simp),h2⟩
 |succ k ih=>
  intro i hi;have hlt:i<l.length:=by omega
  have hx:=ZWq hlt;rw[ZXo hlt,Zu];cases hP:P i l[i]with
  |true=>
   obtain⟨fr',h1,h2⟩:=good i l[i] hx hP;obtain⟨g1,g2⟩:=ih (i+1)<|by omega
   rw[Yt (hr _) h1,h2,ZWf];exact⟨g1,g2⟩
  |false=>
   rw[ZWh];refine⟨λh=>absurd h (by decide),λ_=>?_⟩
   obtain⟨fr',h',h1,h2⟩:=bad i l[i] hx hP;exact⟨fr',h',Q7 (hr _) h1 (by simp),h2⟩
structure EvQ(e:Gt):Prop extends EvR e where
 idz:∀x∈e.Ids.l,x.size<=1000000
 enz:∀x∈e.Lst.l,x.Id.size<=1000000
def enD(l:List Ent)(i:Nat)(x:Ent):Bool:=(l.take i).all (λy=>!QL y.An x.An)
def enP(z:Bool)(x:Ent):Bool:=bif z then gOn x.bf else QK x.bf ⟨0,0⟩
def enS(l:List Ent)(z:Bool)(i:Nat)(x:Ent):Bool:=(YO x.An&&enP z x)&&enD l i x
def ZSk(bw ex:Bool)(l:List Ent)(hl:l.length<=1000000)(z:Bool)(es:List AV)(he:∀n,Zd n es=true)(i:Nat)(x:Ent)(hx:l[i]?=some x):
 ∃fr',Zg rE [0,2,7,8,9] c83L0b [(0,.isl bw ex 7<|l.map Ent.enc),(2,.bool z),(7,.sl 0 es.length 0 es.length false),(8,I i),(9,.int .i64 0)] [.row 1 es]=some (if enD l i x=true then .exit 2 else .ret,fr',[.row 1 es])/\
  (enD l i x=true->get fr' 0=.isl bw ex 7 (l.map Ent.enc)/\get fr' 2=.bool z/\get fr' 7=.sl 0 es.length 0 es.length false/\get fr' 8=I i)/\(enD l i x=false->get fr' 6=.bool false):=by
 have hgx:=Z6 (f:=Ent.enc) hx;have hli:=Z7 hx;have L:=QT (E:=rE) (live:=[0,2,7,8,9]) (b:=c83L0b) (h:=[.row 1 es]) (l.take i) (λ_ y=>!QL y.An x.An) (λj=>[(0,.isl bw ex 7<|l.map Ent.enc),(2,.bool z),(7,.sl 0 es.length 0 es.length false),(8,I i),(9,I j)]) 2
  (λfr=>get fr 0=.isl bw ex 7 (l.map Ent.enc)/\get fr 2=.bool z/\get fr 7=.sl 0 es.length 0 es.length false/\get fr 8=I i) (λfr=>get fr 6=.bool false) (λk=>rfl)
  (λj y hy hP=>by
   obtain⟨hy',hk⟩:=HH hy;have hgy:=Z6 (f:=Ent.enc) hy';have hlt:=Zh hk;have hw:=Zx (n:=j)<|by omega
   have hP':QL y.An x.An=false:=by simpa using hP
   unfold QL at hP';refine⟨_,by simp only[go_sem,c83L0b,he,hgx,hgy,hlt,hw,Ent.enc,hP'];rfl,?_⟩
   simp only[go_sem])
  (λj y hy hP=>by
   obtain⟨hy',hk⟩:=HH hy;have hgy:=Z6 (f:=Ent.enc) hy';have hlt:=Zh hk;have hP':QL y.An x.An=true:=by simpa using hP
   unfold QL at hP';refine⟨_,by simp only[go_sem,c83L0b,he,hgx,hgy,hlt,Ent.enc,hP'];rfl,?_⟩
   simp only[go_sem])
  (by
   have e:(l.take i).length=i:=by rw[ZWS];omega
   rw[e];exact⟨_,by simp only[go_sem,c83L0b,he,ZG];rfl,by simp only[go_sem],by simp only[go_sem],by simp only[go_sem],by simp only[go_sem]⟩)
 rw[QE]at L;exact L
def Z4p(bw ex:Bool)(l:List Ent)(hl:l.length<=1000)(z:Bool)(K:List Str)(hK:K.length<=1):
 (Zu (enS l z) 0 l=true->∃fr',Zg rE [0,2,7,8] c83L1b [(0,.isl bw ex 7<|l.map Ent.enc),(2,.bool z),(7,.sl 0 K.length 0 K.length false),(8,.int .i64 0)] [.row 1<|K.map encS]=some (.exit 0,fr',[.row 1 ((K++l.map (·.Id)).map encS)])/\get fr' 7=.sl 0 (K++l.map (·.Id)).length 0 (K++l.map (·.Id)).length false)/\
 (Zu (enS l z) 0 l=false->∃fr' h',Zg rE [0,2,7,8] c83L1b [(0,.isl bw ex 7<|l.map Ent.enc),(2,.bool z),(7,.sl 0 K.length 0 K.length false),(8,.int .i64 0)] [.row 1<|K.map encS]=some (.ret,fr',h')/\(get fr' 6=.bool false/\∃es,h'=[.row 1 es])):=by
 have hbS:∀(D:List Str)n,Zd n (D.map encS)=true:=λD n=>ZN _<|Zw (λt=>rfl) D
 have step:∀i x,l[i]?=some x->∃es:List Str,(K++(l.take i).map (·.Id))=es/\es.length<=i+1/\K++(l.take<|i+1).map (·.Id)=es++[x.Id]:=λi x hx=>by
  refine⟨_,rfl,?_,?_⟩
  .rw[ZWx,ZWd,ZWS];omega
  .rw[ZX9,hx,ZWC,<-ZWU];rfl
 have L:=ZUN (E:=rE) (live:=[0,2,7,8]) (b:=c83L1b) l (enS l z) (λi=>[(0,.isl bw ex 7<|l.map Ent.enc),(2,.bool z),(7,.sl 0 (K++(l.take i).map (·.Id)).length 0 (K++(l.take i).map (·.Id)).length false),(8,I i)])
  (λi=>[.row 1 ((K++(l.take i).map (·.Id)).map encS)]) 0 (λfr=>get fr 7=.sl 0 (K++l.map (·.Id)).length 0 (K++l.map (·.Id)).length false) (λfr h'=>get fr 6=.bool false/\∃es,h'=[.row 1 es]) (λi=>rfl)
  (λi x hx hP=>by
   have hli:=Z7 hx;obtain⟨es,e1,e2,e3⟩:=step i x hx;rw[e1,e3];have hg:=Z6 (f:=Ent.enc) hx;have hi':=Zh hli;have hwr:=Zx (n:=i)<|by omega
   have hm:=ZPS x.An;have ho:=ZO4 x.bf;have ha:=XC (h:=[.row 1<|es.map encS]) (fz:=false) (b:=0) (g:=es.length) (sz:=1) (bytes:=16) (es:=es.map encS) (bw:=false) (ex:=false) (ys:=[.str x.Id]) (by show(bif (es.map encS).length==es.length then _ else none)=_;rw[ZWd,beq_self_eq_true];rfl) rfl rfl (by decide) (by decide) (by simp;omega)
   have hma:(es++[x.Id]).map encS=es.map encS++[.str x.Id]:=by rw[ZWC];rfl
   have hb1:=hbS es;have hb2:=hbS<|es++[x.Id];obtain⟨fr',h1,h2,_⟩:=ZSk bw ex l (by omega) z ((es++[x.Id]).map encS) hb2 i x hx
   rw[hma]at h1 h2 hb2⊢;unfold enS enP at hP;simp only[ZWe]at hP;obtain⟨⟨p1,p2⟩,p3⟩:=hP;rw[if_pos p3]at h1;have h2:=h2 p3;rw[ZWx,ZWd,ZWJ,ZWN]at h1 h2;obtain⟨g0,g2,g7,g8⟩:=h2;cases z with
   |true=>
    rw[cond_true]at p2;refine⟨_,by simp only[go_sem,c83L1b,c83L0,hg,hi',hwr,hm,ho,ha,hb1,hb2,p1,p2,Ent.enc,ZWd,ZWr,h1,g0,g2,g7,g8,ZWg,ZWi];rfl,?_⟩
    simp only[go_sem,ZWx,ZWJ,ZWN]
   |false=>
    rw[cond_false]at p2;unfold QK at p2;refine⟨_,by simp only[go_sem,c83L1b,c83L0,hg,hi',hwr,hm,ho,ha,hb1,hb2,p1,p2,Ent.enc,ZWd,ZWr,h1,g0,g2,g7,g8,ZWg,ZWi];rfl,?_⟩
    simp only[go_sem,ZWx,ZWJ,ZWN])
  (λi x hx hP=>by
   have hli:=Z7 hx;obtain⟨es,e1,e2,e3⟩:=step i x hx;rw[e1];have hg:=Z6 (f:=Ent.enc) hx;have hi':=Zh hli;have hm:=ZPS x.An;have ho:=ZO4 x.bf;have ha:=XC (h:=[.row 1<|es.map encS]) (fz:=false) (b:=0) (g:=es.length) (sz:=1) (bytes:=16) (es:=es.map encS) (bw:=false) (ex:=false) (ys:=[.str x.Id]) (by show(bif (es.map encS).length==es.length then _ else none)=_;rw[ZWd,beq_self_eq_true];rfl) rfl rfl (by decide) (by decide) (by simp;omega)
   have hma:(es++[x.Id]).map encS=es.map encS++[.str x.Id]:=by rw[ZWC];rfl
   have hb1:=hbS es;have hb2:=hbS<|es++[x.Id];obtain⟨fr',h1,_,h3⟩:=ZSk bw ex l (by omega) z ((es++[x.Id]).map encS) hb2 i x hx
   rw[hma]at h1 hb2;rw[ZWx,ZWd,ZWJ,ZWN]at h1;cases p1:YO x.An with
   |false=>exact⟨_,_,by simp only[go_sem,c83L1b,c83L0,hg,hi',hm,ha,hb1,hb2,p1,Ent.enc,ZWd,ZWr,ZWi];rfl,by simp only[go_sem],_,rfl⟩
   |true=>
   cases z with
   |true=>
    cases p2:gOn x.bf with
    |false=>exact⟨_,_,by simp only[go_sem,c83L1b,c83L0,hg,hi',hm,ho,ha,hb1,hb2,p1,p2,Ent.enc,ZWd,ZWr,ZWg,ZWi];rfl,by simp only[go_sem],_,rfl⟩
    |true=>
     have p3:enD l i x=false:=by unfold enS enP at hP;rw[p1,cond_true,p2]at hP;exact hP
     have g:=h3 p3;rw[p3,if_neg<|by decide]at h1
     exact⟨_,_,by simp only[go_sem,c83L1b,c83L0,hg,hi',hm,ho,ha,hb1,hb2,p1,p2,Ent.enc,ZWd,ZWr,h1,ZWg,ZWi];rfl,by simp only[go_sem,g],_,rfl⟩
   |false=>
    cases p2:QK x.bf ⟨0,0⟩with
    |false=>
     unfold QK at p2;exact⟨_,_,by simp only[go_sem,c83L1b,c83L0,hg,hi',hm,ho,ha,hb1,hb2,p1,p2,Ent.enc,ZWd,ZWr,ZWg,ZWi];rfl,by simp only[go_sem],_,rfl⟩
    |true=>
     have p3:enD l i x=false:=by unfold enS enP at hP;rw[p1,cond_false,p2]at hP;exact hP
     have g:=h3 p3;rw[p3,if_neg<|by decide]at h1
     unfold QK at p2;exact⟨_,_,by simp only[go_sem,c83L1b,c83L0,hg,hi',hm,ho,ha,hb1,hb2,p1,p2,Ent.enc,ZWd,ZWr,h1,ZWg,ZWi];rfl,by simp only[go_sem,g],_,rfl⟩)
  (by
   have hb1:=hbS (K++l.map (·.Id));rw[ZWL];exact⟨_,by simp only[go_sem,c83L1b,ZG,hb1,ZWd];rfl,by simp only[go_sem]⟩)
 simp only[ZYm,ZWB,ZWG,ZWL]at L;exact L
def ZQ0(l:List Ent)(o:Str)(z:Bool):Bool:=Zu (enS l z) 0 l&&Qv ((bif Z3 o emp then []else [o])++l.map (·.Id))
def ZSl(bw ex:Bool)(l:List Ent)(hl:l.length<=1000)(hz:∀x∈l,x.Id.size<=1000000)(o:Str)(ho:o.size<=1000000)(z:Bool):pfn rE 83 [.isl bw ex 7<|l.map Ent.enc,.str o,.bool z]=some (.bool<|ZQ0 l o z):=by
 have hbS:∀(D:List Str)n,Zd n (D.map encS)=true:=λD n=>ZN _<|Zw (λt=>rfl) D
 have hcS:∀D:List Str,Z4 (D.map encS)=true:=λD=>Zw (λt=>rfl) _
 have fin:∀K:List Str,(∀x∈K,x.size<=1000000)->∀x∈K++l.map (·.Id),x.size<=1000000:=λK hK x hx=>by
  rcases ZX3.1 hx with h|h
  .exact hK x h
  .obtain⟨y,hy,rfl⟩:=ZX4.1 h;exact hz y hy
 unfold ZQ0;rw[Z5 (f:=83) rfl rfl];cases c0:Z3 o emp with
 |true=>
  obtain⟨L1,L2⟩:=Z4p bw ex l hl z []<|by simp
  have hI:=ZPp false false ([]++l.map (·.Id)) (by simp;omega)<|fin []<|by simp
  have c0':(!Z3 o emp)=false:=by rw[c0];rfl
  have htk:List.take ([]++l.map (λx:Ent=>x.Id)).length (([]++l.map (λx:Ent=>x.Id)).map encS)=([]++l.map (λx:Ent=>x.Id)).map encS:=ZWP<|by simp
  have hc1:=hcS<|[]++l.map (λx:Ent=>x.Id)
  have hb1:=hbS<|[]++l.map (λx:Ent=>x.Id)
  rw[cond_true];generalize([]++l.map (λx:Ent=>x.Id))=D at*
  cases c1:Zu (enS l z) 0 l with
  |true=>
   obtain⟨fr',h1,g⟩:=L1 c1;simp only[ZWB,ZWN]at h1;simp only[go_sem,c83,c83L1,c0',h1,g,hc1,hb1,htk,hI,ZWd,ZWA,beq_self_eq_true,ZWf]
  |false=>
   obtain⟨fr',h',h1,g,es,rfl⟩:=L2 c1;simp only[ZWB,ZWN]at h1;simp only[go_sem,c83,c83L1,c0',h1,g,ZWh]
 |false=>
  obtain⟨L1,L2⟩:=Z4p bw ex l hl z [o]<|by simp
  have hI:=ZPp false false ([o]++l.map (·.Id)) (by simp;omega)<|fin [o]<|by simpa using ho
  have c0':(!Z3 o emp)=true:=by rw[c0];rfl
  have htk:List.take ([o]++l.map (λx:Ent=>x.Id)).length (([o]++l.map (λx:Ent=>x.Id)).map encS)=([o]++l.map (λx:Ent=>x.Id)).map encS:=ZWP<|by simp
  have hc1:=hcS<|[o]++l.map (λx:Ent=>x.Id)
  have hb1:=hbS<|[o]++l.map (λx:Ent=>x.Id)
  have ha:=XC (h:=[.row 1 []]) (fz:=false) (b:=0) (g:=0) (sz:=1) (bytes:=16) (es:=[]) (bw:=false) (ex:=false) (ys:=[.str o]) rfl rfl rfl (by decide) (by decide) (by show 16<=140737488355328;decide)
  rw[cond_false];generalize([o]++l.map (λx:Ent=>x.Id))=D at*
  cases c1:Zu (enS l z) 0 l with
  |true=>
   obtain⟨fr',h1,g⟩:=L1 c1;simp only[ZWB,ZWs,ZWJ,ZWN,encS]at h1;simp only[go_sem,c83,c83L1,c0',ha,h1,g,hc1,hb1,htk,hI,ZWd,ZWA,beq_self_eq_true,ZWf]
  |false=>
   obtain⟨fr',h',h1,g,es,rfl⟩:=L2 c1;simp only[ZWB,ZWs,ZWJ,ZWN,encS]at h1;simp only[go_sem,c83,c83L1,c0',ha,h1,g,ZWh]
def ZSm{α β:Type}{P:Nat->α->Bool}{Q:Nat->β->Bool}{f:α->β}(h:∀i x,P i x=Q i (f x)):∀(l:List α)(i:Nat),Zu P i l=Zu Q i (l.map f)
 |[],_=>rfl
 |x::r,i=>by rw[ZWs,Zu,Zu,h,ZSm h r<|i+1]
def ZUO(l:List Ent):Zu (enD l) 0 l=XH QL (l.map Yl):=by
 rw[ZPy];refine ZSm (λi x=>?_) l 0
 unfold enD;rw[<-ZYL,List.any_map,ZZ7];congr 1
 funext y
 show(!QL y.An x.An) = !QL (Yl x) (Yl y)
 rw[ZRV];rfl
def ZSn(l:List Ent)(o:Str)(z:Bool):ZQ0 l o z=(Xi l (bif Z3 o emp then []else [o])&&Vk l (!z)):=by
 unfold ZQ0 Xi Vk;have e:Zu (enS l z) 0 l=((Zu (λ_ x=>YO x.An) 0 l&&Zu (λ_ x=>enP z x) 0 l)&&Zu (enD l) 0 l):=by
  rw[<-ZPb,<-ZPb];rfl
 rw[e,QE,QE,ZUO];have e2:l.all (λx=>enP z x) = !l.any (Ux<|!z):=by
  rw[ZZ7];congr 1
  funext x
  unfold enP Ux;cases z with
  |true=>simp
  |false=>
   show QK x.bf ⟨0,0⟩ = !(!gOn x.bf||(true&&!QK x.bf ⟨0,0⟩))
   cases h:QK x.bf ⟨0,0⟩with
   |false=>simp
   |true=>
    unfold QK at h;simp only[ZWe,beq_iff_eq]at h;have:gOn x.bf=true:=by
     obtain⟨i,n,u,v⟩:=x;simp only at h;obtain⟨rfl,rfl⟩:=h;show gOn ⟨0,0⟩=true
     decide
    rw[this];rfl
 rw[e2];have e3:(λx:Ent=>YO x.An)=K6:=rfl
 have e4:(l.map λx:Ent=>x.Id)=l.map Yd:=rfl
 rw[e3,e4];generalize Qv _=a;cases l.all K6<;>cases(!l.any (Ux !z))<;>cases XH QL (l.map Yl)<;>cases a<;>rfl
def ZUP(e:Gt)(hs:EvQ e)(hu0:okU e=true)(hk:e.bp=8):pfn rE 36 [evA e]=some (.bool<|Q8 e):=by
 have hu:=ZOg e;have hS:=ZOh e hs.toEvS;obtain⟨d1,d2,d3⟩:=ZOj e hu0;rw[d3]at hS;generalize ZO2 e=u at hu hS;have hn:=ZOe e.Id (by have:=hs.id;omega)
 have q1:(e.bp==1)=false:=by rw[hk];rfl
 have q2:(e.bp==2)=false:=by rw[hk];rfl
 have q3:(e.bp==3)=false:=by rw[hk];rfl
 have q4:(e.bp==4)=false:=by rw[hk];rfl
 have q5:(e.bp==5)=false:=by rw[hk];rfl
 have q6:(e.bp==6)=false:=by rw[hk];rfl
 have q7:(e.bp==7)=false:=by rw[hk];rfl
 have q8:(e.bp==8)=true:=by rw[hk];rfl
 rw[Z5 (f:=36) rfl rfl];unfold Q8 ZD;have hv:=ZSl false e.Lst.ex e.Lst.l (by have:=hs.lst;omega) hs.enz emp (by decide) false
 have ee:Z3 emp emp=true:=rfl;rw[ZSn,ee,cond_true]at hv;cases c1:ZZ e.Id with
 |false=>simp only[go_sem,c36,d1,d2,hu,hS,hn,ZWg,q1,q2,q3,q4,q5,q6,q7,q8,c1,ZWd,cond_true,cond_false,ZWf,ZWh,ZWk,ZWm,ZWO]
 |true=>
 cases c2:decide ((e.Lst.l.length:Int)>=1)with
 |false=>simp only[go_sem,c36,d1,d2,hu,hS,hn,ZWg,q1,q2,q3,q4,q5,q6,q7,q8,c1,c2,ZWd,cond_true,cond_false,ZWf,ZWh,ZWk,ZWm,ZWO]
 |true=>
 cases c4:decide ((e.Lst.l.length:Int)<=40)with
 |false=>simp only[go_sem,c36,d1,d2,hu,hS,hn,ZWg,q1,q2,q3,q4,q5,q6,q7,q8,c1,c2,c4,ZWd,cond_true,cond_false,ZWf,ZWh,ZWk,ZWm,ZWO]
 |true=>simp only[go_sem,c36,d1,d2,hu,hS,hn,ZWg,q1,q2,q3,q4,q5,q6,q7,q8,c1,c2,c4,hv,ZWd,cond_true,cond_false,ZWf,ZWh,ZWk,ZWm,ZWO]
def ZUQ(e:Gt)(hs:EvQ e)(hu0:okU e=true)(hk:e.bp=9):pfn rE 36 [evA e]=some (.bool<|Q8 e):=by
 have hu:=ZOg e;have hS:=ZOh e hs.toEvS;obtain⟨d1,d2,d3⟩:=ZOj e hu0;rw[d3]at hS;generalize ZO2 e=u at hu hS;have hn:=ZOe e.Id (by have:=hs.id;omega)
 have q1:(e.bp==1)=false:=by rw[hk];rfl
 have q2:(e.bp==2)=false:=by rw[hk];rfl
 have q3:(e.bp==3)=false:=by rw[hk];rfl
 have q4:(e.bp==4)=false:=by rw[hk];rfl
 have q5:(e.bp==5)=false:=by rw[hk];rfl
 have q6:(e.bp==6)=false:=by rw[hk];rfl
 have q7:(e.bp==7)=false:=by rw[hk];rfl
 have q8:(e.bp==8)=false:=by rw[hk];rfl
 have q9:(e.bp==9)=true:=by rw[hk];rfl
 rw[Z5 (f:=36) rfl rfl];unfold Q8 ZD;have hv:=ZSl false e.Lst.ex e.Lst.l (by have:=hs.lst;omega) hs.enz e.Id (by have:=hs.id;omega) true
 cases c2:decide ((e.Lst.l.length:Int)>=2)with
 |false=>simp only[go_sem,c36,d1,d2,hu,hS,hn,ZWg,q1,q2,q3,q4,q5,q6,q7,q8,q9,c2,ZWd,cond_true,cond_false,ZWf,ZWh,ZWk,ZWm,ZWO]
 |true=>
 cases c4:decide ((e.Lst.l.length:Int)<=8)with
 |false=>simp only[go_sem,c36,d1,d2,hu,hS,hn,ZWg,q1,q2,q3,q4,q5,q6,q7,q8,q9,c2,c4,ZWd,cond_true,cond_false,ZWf,ZWh,ZWk,ZWm,ZWO]
 |true=>
 cases c1:ZZ e.Id with
 |false=>
  have hl:Xi e.Lst.l [e.Id]=false:=by
   unfold Xi Qv;have:Ha e.Id=true:=by unfold Ha;rw[c1];rfl
   simp[this]
  rw[hl];simp only[go_sem,c36,d1,d2,hu,hS,hn,ZWg,q1,q2,q3,q4,q5,q6,q7,q8,q9,c1,c2,c4,ZWd,cond_true,cond_false,ZWf,ZWh,ZWk,ZWm,ZWO]
 |true=>
  have hne:Z3 e.Id emp=false:=by
   cases h:Z3 e.Id emp with
   |false=>rfl
   |true=>
    rw[(Ky _ _).1 h]at c1;exact absurd c1<|by decide
  rw[ZSn,hne,cond_false]at hv;simp only[go_sem,c36,d1,d2,hu,hS,hn,ZWg,q1,q2,q3,q4,q5,q6,q7,q8,q9,c1,c2,c4,hv,ZWd,cond_true,cond_false,ZWf,ZWh,ZWk,ZWm,ZWO]
def ZUR(e:Gt)(hs:EvQ e)(hu0:okU e=true)(hk:e.bp=10):pfn rE 36 [evA e]=some (.bool<|Q8 e):=by
 have hu:=ZOg e;have hS:=ZOh e hs.toEvS;obtain⟨d1,d2,d3⟩:=ZOj e hu0;rw[d3]at hS;generalize ZO2 e=u at hu hS;have hn:=ZOe e.Id (by have:=hs.id;omega)
 have q1:(e.bp==1)=false:=by rw[hk];rfl
 have q2:(e.bp==2)=false:=by rw[hk];rfl
 have q3:(e.bp==3)=false:=by rw[hk];rfl
 have q4:(e.bp==4)=false:=by rw[hk];rfl
 have q5:(e.bp==5)=false:=by rw[hk];rfl
 have q6:(e.bp==6)=false:=by rw[hk];rfl
 have q7:(e.bp==7)=false:=by rw[hk];rfl
 have q8:(e.bp==8)=false:=by rw[hk];rfl
 have q9:(e.bp==9)=false:=by rw[hk];rfl
 have q10:(e.bp==10)=true:=by rw[hk];rfl
 rw[Z5 (f:=36) rfl rfl];unfold Q8 ZD;have hv:=ZPp true false (e.Id::e.Ids.l) (by have:=hs.ids;simp;omega) (by
  have:=hs.id;intro x hx;rcases ZWF.1 hx with rfl|h
  .omega
  .exact hs.idz x h)
 rw[ZWs]at hv;have hm:=ZPS e.An;have ho:=ZO4 e.bf;have hlen:=hs.ids;cases c2:decide ((e.Ids.l.length:Int)>=2)with
 |false=>simp only[go_sem,c36,d1,d2,hu,hS,hn,ZWg,q1,q2,q3,q4,q5,q6,q7,q8,q9,q10,c2,ZWd,cond_true,cond_false,ZWf,ZWh,ZWk,ZWm,ZWO]
 |true=>
 cases c4:decide ((e.Ids.l.length:Int)<=8)with
 |false=>simp only[go_sem,c36,d1,d2,hu,hS,hn,ZWg,q1,q2,q3,q4,q5,q6,q7,q8,q9,q10,c2,c4,ZWd,cond_true,cond_false,ZWf,ZWh,ZWk,ZWm,ZWO]
 |true=>
 have hne:(e.Ids.l.map encS).isEmpty=false:=by
  have:=of_decide_eq_true c2;cases h:e.Ids.l with
  |nil=>rw[h]at this;simp at this
  |cons=>rfl
 have hap:=Z2q (h:=[.row 1 [.str e.Id]]) (aid:=1) (b:=0) (g:=1) (sz:=1) (bytes:=16) (es:=[.str e.Id]) (bw:=false) (ex:=e.Ids.ex) rfl hne (by omega) (by omega) (by have:=hs.ids;simp;omega)
 have hcS:∀K:List Str,Z4 (K.map encS)=true:=λK=>Zw (λt=>rfl) K
 have tk:List.take (e.Ids.l.length+1) (.str e.Id::e.Ids.l.map encS)=.str e.Id::e.Ids.l.map encS:=ZWP<|by simp
 have hv':pfn rE 80 [.isl true false 1<|.str e.Id::e.Ids.l.map encS]=_:=hv;cases c1:Qv (e.Id::e.Ids.l)with
 |false=>simp only[go_sem,c36,d1,d2,hu,hS,hn,ZWg,q1,q2,q3,q4,q5,q6,q7,q8,q9,q10,c1,c2,c4,hv',appW,hap,ZM,ZH,F5,beq_self_eq_true,tk,hcS,ZWd,cond_true,cond_false,ZWf,ZWh,ZWk,ZWm,ZWO]
 |true=>
 cases c5:YO e.An<;>simp only[go_sem,c36,d1,d2,hu,hS,hn,ZWg,q1,q2,q3,q4,q5,q6,q7,q8,q9,q10,c1,c2,c4,c5,hv',hm,ho,appW,hap,ZM,ZH,F5,beq_self_eq_true,tk,hcS,ZWd,cond_true,cond_false,ZWf,ZWh,ZWk,ZWm,ZWO]
def ZUS(e:Gt)(hs:EvQ e)(hu0:okU e=true)(hk:ZD e.bp 1 15=false):pfn rE 36 [evA e]=some (.bool false):=by
 have hu:=ZOg e;have hS:=ZOh e hs.toEvS;obtain⟨d1,d2,d3⟩:=ZOj e hu0;rw[d3]at hS;generalize ZO2 e=u at hu hS;have hn:=ZOe e.Id (by have:=hs.id;omega)
 have hw:¬(1<=e.bp/\e.bp<=15):=by
  unfold ZD at hk;rintro⟨a,b⟩;rw[decide_eq_true (show e.bp>=1 from a),decide_eq_true b]at hk
  cases hk
 have q1:(e.bp==1)=false:=by rw[beq_eq_false_iff_ne];omega
 have q2:(e.bp==2)=false:=by rw[beq_eq_false_iff_ne];omega
 have q3:(e.bp==3)=false:=by rw[beq_eq_false_iff_ne];omega
 have q4:(e.bp==4)=false:=by rw[beq_eq_false_iff_ne];omega
 have q5:(e.bp==5)=false:=by rw[beq_eq_false_iff_ne];omega
 have q6:(e.bp==6)=false:=by rw[beq_eq_false_iff_ne];omega
 have q7:(e.bp==7)=false:=by rw[beq_eq_false_iff_ne];omega
 have q8:(e.bp==8)=false:=by rw[beq_eq_false_iff_ne];omega
 have q9:(e.bp==9)=false:=by rw[beq_eq_false_iff_ne];omega
 have q10:(e.bp==10)=false:=by rw[beq_eq_false_iff_ne];omega
 have q11:(e.bp==11)=false:=by rw[beq_eq_false_iff_ne];omega
 have q12:(e.bp==12)=false:=by rw[beq_eq_false_iff_ne];omega
 have q13:(e.bp==13)=false:=by rw[beq_eq_false_iff_ne];omega
 have q14:(e.bp==14)=false:=by rw[beq_eq_false_iff_ne];omega
 have q15:(e.bp==15)=false:=by rw[beq_eq_false_iff_ne];omega
 rw[Z5 (f:=36) rfl rfl];simp only[go_sem,c36,d1,d2,hu,hS,hn,ZWg,q1,q2,q3,q4,q5,q6,q7,q8,q9,q10,q11,q12,q13,q14,q15,ZWd,cond_true,cond_false,ZWf,ZWh,ZWk,ZWm,ZWO]
def ZPd(e:Gt)(hs:EvQ e):pfn rE 36 [evA e]=some (.bool<|Q9 e):=by
 rw[ZQq e hs.toEvS];cases hu:okU e with
 |false=>rw[ZWh,ZWm];exact ZRW e hs.toEvS hu
 |true=>
  cases hw:ZD e.bp 1 15 with
  |false=>exact ZUS e hs hu hw
  |true=>
   rw[ZWf,ZWf];have hr:1<=e.bp/\e.bp<=15:=by
    unfold ZD at hw;rw[ZWe,decide_eq_true_eq,decide_eq_true_eq]at hw;exact hw
   have hk:e.bp=1\/e.bp=2\/e.bp=3\/e.bp=4\/e.bp=5\/e.bp=6\/e.bp=7\/e.bp=8\/e.bp=9\/e.bp=10\/e.bp=11\/e.bp=12\/e.bp=13\/e.bp=14\/e.bp=15:=by omega
   rcases hk with h|h|h|h|h|h|h|h|h|h|h|h|h|h|h
   .exact ZRX e hs.toEvR hu h
   .exact ZRY e hs.toEvR hu h
   .exact ZRZ e hs.toEvR hu h
   .exact ZTZ e hs.toEvR hu h
   .exact ZS0 e hs.toEvR hu h
   .exact ZS1 e hs.toEvR hu h
   .exact ZS2 e hs.toEvR hu h
   .exact ZUP e hs hu h
   .exact ZUQ e hs hu h
   .exact ZUR e hs hu h
   .exact ZU0 e hs.toEvR hu h
   .exact ZU1 e hs.toEvR hu h
   .exact ZU2 e hs.toEvR hu h
   .exact ZU3 e hs.toEvR hu h
   .exact ZS3 e hs.toEvR hu h
end Go.AM
