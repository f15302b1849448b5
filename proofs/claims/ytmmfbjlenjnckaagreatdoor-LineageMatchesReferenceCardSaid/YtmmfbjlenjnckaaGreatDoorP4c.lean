/- What the functions of the program compute, part 3, for LineageMatchesReference. No condition. -/
import Derived.Test.YtmmfbjlenjnckaaGreatDoorP4b
import Derived.Test.YtmmfbjlenjnckaaGreatDoorQ5
set_option linter.unusedVariables false
set_option linter.defProp false
set_option linter.unusedSimpArgs false
set_option linter.unusedSectionVars false
namespace Go.AM
open Go
variable [REdz]
def ZPd(s:Sta)(i:Nat)(x:Ga):Bool:=Zu (afS s i x.After.l) 0 x.After.l&&ZP1 x
def ZUu(s:Sta)(hs:StR s):∃fr',Zg rE [1,9] c10L3b [(1,stI s),(9,.int .i64 0)] []=some (if Zu (ZOB s) 0 s.Bc=true then .exit 6 else .ret,fr',[])/\
 (Zu (ZOB s) 0 s.Bc=true->get fr' 1=stI s)/\(Zu (ZOB s) 0 s.Bc=false->get fr' 2=.bool false):=by
 exact QT (E:=rE) (live:=[1,9]) (b:=c10L3b) (h:=[]) s.Bc (ZOB s) (λi=>[(1,stI s),(9,I i)]) 6 (λfr=>get fr 1=stI s) (λfr=>get fr 2=.bool false) (λk=>rfl)
  (λi x hx hP=>by
   have hg:(s.Bc.map Ga.enc)[i]?=some (.agg [.str x.Id,.str x.Ev,.str x.By,I x.bh,I x.An.N,.str x.An.bm,I x.An.Num,I x.An.Den,I x.bg.X,I x.bg.Y,I x.From,I x.Ld,.isl false x.After.ex 1<|x.After.l.map encS,I x.Why,I x.bv,.str x.Veil]):=Z6 (f:=Ga.enc) hx;have hlt:=Zh<|Z7 hx;have hm:=ZVN hx;have hd:=hs.toStE.doors x hm;have hw:=Zx (n:=i) (by have:=Z7 hx;have:=hs.toStE.sizes.doors;omega)
   have h0:=ZOc x.bh;have h1:=ZOe x.Ld<|-1;have h2:=ZOe x.From 0;have h3:pfn rE 65 [stA s,I i]=some (.bool<|ZPd s i x):=ZRk s hs.toStE.sizes i x hx hd;have h4:pfn rE 66 [stA s,.agg [.str x.Id,.str x.Ev,.str x.By,I x.bh,I x.An.N,.str x.An.bm,I x.An.Num,I x.An.Den,I x.bg.X,I x.bg.Y,I x.From,I x.Ld,.isl false x.After.ex 1<|x.After.l.map encS,I x.Why,I x.bv,.str x.Veil]]=some (.bool<|ZOM s x):=ZRi s hs.toStE.sizes x hd;have h5:pfn rE 67 [.agg [.str x.Id,.str x.Ev,.str x.By,I x.bh,I x.An.N,.str x.An.bm,I x.An.Num,I x.An.Den,I x.bg.X,I x.bg.Y,I x.From,I x.Ld,.isl false x.After.ex 1<|x.After.l.map encS,I x.Why,I x.bv,.str x.Veil]]=some (.bool<|ZOA x):=ZRh x hd;have hP':(ZD x.bh 0 63&&(ZD x.Ld (-1) 100000&&(ZD x.From 0 100000&&(ZPd s i x&&(bif Z3 x.Veil emp then ZOM s x else ZOA x)))))=true:=hP;simp only[ZVB]at hP';obtain⟨p0,p1,p2,p3,p4⟩:=hP';cases v:Z3 x.Veil emp with
   |true=>
    rw[v,cond_true]at p4;refine⟨_,by simp only[go_sem,c10L3b,hg,hlt,hw,h0,h1,h2,h3,h4,h5,ZVA,ZVC,ZVE,p0,p1,p2,p3,v,p4];rfl,?_⟩
    simp only[go_sem]
   |false=>
    rw[v,cond_false]at p4;refine⟨_,by simp only[go_sem,c10L3b,hg,hlt,hw,h0,h1,h2,h3,h4,h5,ZVA,ZVC,ZVE,p0,p1,p2,p3,v,p4];rfl,?_⟩
    simp only[go_sem])
  (λi x hx hP=>by
   have hg:(s.Bc.map Ga.enc)[i]?=some (.agg [.str x.Id,.str x.Ev,.str x.By,I x.bh,I x.An.N,.str x.An.bm,I x.An.Num,I x.An.Den,I x.bg.X,I x.bg.Y,I x.From,I x.Ld,.isl false x.After.ex 1<|x.After.l.map encS,I x.Why,I x.bv,.str x.Veil]):=Z6 (f:=Ga.enc) hx;have hlt:=Zh<|Z7 hx;have hm:=ZVN hx;have hd:=hs.toStE.doors x hm;have hw:=Zx (n:=i) (by have:=Z7 hx;have:=hs.toStE.sizes.doors;omega)
   have h0:=ZOc x.bh;have h1:=ZOe x.Ld<|-1;have h2:=ZOe x.From 0;have h3:pfn rE 65 [stA s,I i]=some (.bool<|ZPd s i x):=ZRk s hs.toStE.sizes i x hx hd;have h4:pfn rE 66 [stA s,.agg [.str x.Id,.str x.Ev,.str x.By,I x.bh,I x.An.N,.str x.An.bm,I x.An.Num,I x.An.Den,I x.bg.X,I x.bg.Y,I x.From,I x.Ld,.isl false x.After.ex 1<|x.After.l.map encS,I x.Why,I x.bv,.str x.Veil]]=some (.bool<|ZOM s x):=ZRi s hs.toStE.sizes x hd;have h5:pfn rE 67 [.agg [.str x.Id,.str x.Ev,.str x.By,I x.bh,I x.An.N,.str x.An.bm,I x.An.Num,I x.An.Den,I x.bg.X,I x.bg.Y,I x.From,I x.Ld,.isl false x.After.ex 1<|x.After.l.map encS,I x.Why,I x.bv,.str x.Veil]]=some (.bool<|ZOA x):=ZRh x hd;have hP':(ZD x.bh 0 63&&(ZD x.Ld (-1) 100000&&(ZD x.From 0 100000&&(ZPd s i x&&(bif Z3 x.Veil emp then ZOM s x else ZOA x)))))=false:=hP;cases p0:ZD x.bh 0 63 with
   |false=>
    refine⟨_,by simp only[go_sem,c10L3b,hg,hlt,hw,h0,h1,h2,h3,h4,h5,ZVA,ZVC,ZVE,p0];rfl,?_⟩
    simp only[go_sem]
   |true=>
   cases p1:ZD x.Ld (-1) 100000 with
   |false=>
    refine⟨_,by simp only[go_sem,c10L3b,hg,hlt,hw,h0,h1,h2,h3,h4,h5,ZVA,ZVC,ZVE,p0,p1];rfl,?_⟩
    simp only[go_sem]
   |true=>
   cases p2:ZD x.From 0 100000 with
   |false=>
    refine⟨_,by simp only[go_sem,c10L3b,hg,hlt,hw,h0,h1,h2,h3,h4,h5,ZVA,ZVC,ZVE,p0,p1,p2];rfl,?_⟩
    simp only[go_sem]
   |true=>
   cases p3:ZPd s i x with
   |false=>
    refine⟨_,by simp only[go_sem,c10L3b,hg,hlt,hw,h0,h1,h2,h3,h4,h5,ZVA,ZVC,ZVE,p0,p1,p2,p3];rfl,?_⟩
    simp only[go_sem]
   |true=>
   rw[p0,p1,p2,p3,ZVD,ZVD,ZVD,ZVD]at hP';cases v:Z3 x.Veil emp with
   |true=>
    rw[v,cond_true]at hP';refine⟨_,by simp only[go_sem,c10L3b,hg,hlt,hw,h0,h1,h2,h3,h4,h5,ZVA,ZVC,ZVE,p0,p1,p2,p3,v,hP'];rfl,?_⟩
    simp only[go_sem]
   |false=>
    rw[v,cond_false]at hP';refine⟨_,by simp only[go_sem,c10L3b,hg,hlt,hw,h0,h1,h2,h3,h4,h5,ZVA,ZVC,ZVE,p0,p1,p2,p3,v,hP'];rfl,?_⟩
    simp only[go_sem])
  (⟨_,by simp only[go_sem,c10L3b,ZG,ZVA];rfl,by simp only[go_sem]⟩)
def uwB(x:be)(d:Bool):Bool:=bif x.Ld==-1 then(x.Why==0&&d)else(x.Why==12||x.Why==11)
def ZOu(s:Sta)(x:be):Bool:=ZD x.Ld (-1) 100000&&(ZD x.From 0 100000&&(Q9 {Vn x with bq:=7}&&(!decide (Zn s x.Ga<0)&&uwB x (QN s (Zn s x.Ga)==-1))))
def ZUv(s:Sta)(x:be):ZOu s x=Vs s x:=by
 have w:ZD 0 0 63=true:=rfl;unfold ZOu Vs Jw uwB QM;rw[w];simp only[bne];cases decide (Zn s x.Ga<0)<;>cases ZD x.Ld (-1) 100000<;>cases ZD x.From 0 100000<;>cases Q9 {Vn x with bq:=7}<;>cases(x.Ld==-1)<;>cases(x.Why==0)<;>cases(x.Why==12)<;>cases(x.Why==11)<;>cases(QN s (Zn s x.Ga)==-1)<;>rfl
def ZUw(s:Sta)(hs:StR s):∃fr',Zg rE [1,11] c10L4b [(1,stI s),(11,.int .i64 0)] []=some (if s.Nk.all (ZOu s)=true then .exit 8 else .ret,fr',[])/\(s.Nk.all (ZOu s)=false->get fr' 2=.bool false):=by
 have L:=Uf (E:=rE) (live:=[1,11]) (b:=c10L4b) (h:=[]) s.Nk (λ_ x=>ZOu s x) (λi=>[(1,stI s),(11,I i)]) 8 (λfr=>get fr 2=.bool false) (λk=>rfl)
  (λi x hx hP=>by
   have hg:(s.Nk.map be.enc)[i]?=some (.agg [.str x.Id,.str x.Ga,.str x.Text,I x.From,I x.Ld,I x.Why]):=Z6 (f:=be.enc) hx;have hlt:=Zh<|Z7 hx;have hm:=ZVN hx;obtain⟨z1,z2,z3⟩:=hs.toStE.units x hm;have hw:=Zx (n:=i) (by have:=Z7 hx;have:=hs.toStE.sizes.units;omega)
   have h0:=ZOe x.Ld<|-1;have h1:=ZOe x.From 0;have h20:=ZOn {Vn x with bq:=7} ⟨⟨by simp[Vn],by simp[Vn],by simp[Vn],by simp[Vn],z1,z2,z3⟩,ZOt _ rfl⟩<|by simp
   have h2:pfn rE 52 [.agg [I 7,I 0,I 0,I 0,I 0,.str x.Id,.str x.Ga,.str x.Text,.isl false false 1 [],.isl false false 3 [],I 0,.str emp,I 0,I 0,I 0,I 0,.isl false false 2 [],.isl false false 7 []]]=some (.bool<|Q9 {Vn x with bq:=7}):=h20
   have h3:=ZOs s hs.toStE.sizes x.Ga;have n0:(x.Why != 0) = !(x.Why==0):=rfl;have n11:(x.Why != 11) = !(x.Why==11):=rfl;have n12:(x.Why != 12) = !(x.Why==12):=rfl;have ne:(x.Ld != -1) = !(x.Ld==-1):=rfl;unfold ZOu at hP;simp only[ZVB,ZVW]at hP;obtain⟨p0,p1,p2,p3,p4⟩:=hP;have hneg:decide (Zn s x.Ga>=0)=true:=by have:=of_decide_eq_false p3;exact decide_eq_true<|by omega
   obtain⟨j,d,hj,hdj⟩:=ZPc _ s.Bc hneg;have hj':Zn s x.Ga=(j:Int):=hj;have hgd:=Z6 (f:=Ga.enc) hdj;rw[show Ga.enc d=Zo d from rfl]at hgd
   have ed:QN s (j:Int)=d.Ld:=by unfold QN;rw[ZWJ,hdj]
   have nd:(d.Ld != -1) = !(d.Ld==-1):=rfl;rw[hj']at h3 p3 p4;rw[ed]at p4;unfold Zo at hgd;unfold uwB at p4;cases q:(x.Ld==-1)with
   |true=>
    rw[q,cond_true,ZVB]at p4;refine⟨_,by simp only[go_sem,c10L4b,hg,hlt,hw,h0,h1,h2,h3,ZVA,ZVC,ZVE,n0,n11,n12,ne,nd,hgd,p0,p1,p2,p3,q,p4.1,p4.2];rfl,?_⟩
    simp only[go_sem]
   |false=>
    rw[q,cond_false]at p4;cases y:(x.Why==12)with
    |true=>
     refine⟨_,by simp only[go_sem,c10L4b,hg,hlt,hw,h0,h1,h2,h3,ZVA,ZVC,ZVE,n0,n11,n12,ne,nd,hgd,p0,p1,p2,p3,q,y];rfl,?_⟩
     simp only[go_sem]
    |false=>
     rw[y,ZVS]at p4;refine⟨_,by simp only[go_sem,c10L4b,hg,hlt,hw,h0,h1,h2,h3,ZVA,ZVC,ZVE,n0,n11,n12,ne,nd,hgd,p0,p1,p2,p3,q,y,p4];rfl,?_⟩
     simp only[go_sem])
  (λi x hx hP=>by
   have hg:(s.Nk.map be.enc)[i]?=some (.agg [.str x.Id,.str x.Ga,.str x.Text,I x.From,I x.Ld,I x.Why]):=Z6 (f:=be.enc) hx;have hlt:=Zh<|Z7 hx;have hm:=ZVN hx;obtain⟨z1,z2,z3⟩:=hs.toStE.units x hm;have hw:=Zx (n:=i) (by have:=Z7 hx;have:=hs.toStE.sizes.units;omega)
   have h0:=ZOe x.Ld<|-1;have h1:=ZOe x.From 0;have h20:=ZOn {Vn x with bq:=7} ⟨⟨by simp[Vn],by simp[Vn],by simp[Vn],by simp[Vn],z1,z2,z3⟩,ZOt _ rfl⟩<|by simp
   have h2:pfn rE 52 [.agg [I 7,I 0,I 0,I 0,I 0,.str x.Id,.str x.Ga,.str x.Text,.isl false false 1 [],.isl false false 3 [],I 0,.str emp,I 0,I 0,I 0,I 0,.isl false false 2 [],.isl false false 7 []]]=some (.bool<|Q9 {Vn x with bq:=7}):=h20
   have h3:=ZOs s hs.toStE.sizes x.Ga;have n0:(x.Why != 0) = !(x.Why==0):=rfl;have n11:(x.Why != 11) = !(x.Why==11):=rfl;have n12:(x.Why != 12) = !(x.Why==12):=rfl;have ne:(x.Ld != -1) = !(x.Ld==-1):=rfl;unfold ZOu at hP;cases p0:ZD x.Ld (-1) 100000 with
   |false=>
    refine⟨_,by simp only[go_sem,c10L4b,hg,hlt,hw,h0,h1,h2,h3,ZVA,ZVC,ZVE,n0,n11,n12,ne,p0];rfl,?_⟩
    simp only[go_sem]
   |true=>
   cases p1:ZD x.From 0 100000 with
   |false=>
    refine⟨_,by simp only[go_sem,c10L4b,hg,hlt,hw,h0,h1,h2,h3,ZVA,ZVC,ZVE,n0,n11,n12,ne,p0,p1];rfl,?_⟩
    simp only[go_sem]
   |true=>
   cases p2:Q9 {Vn x with bq:=7}with
   |false=>
    refine⟨_,by simp only[go_sem,c10L4b,hg,hlt,hw,h0,h1,h2,h3,ZVA,ZVC,ZVE,n0,n11,n12,ne,p0,p1,p2];rfl,?_⟩
    simp only[go_sem]
   |true=>
   cases p3:decide (Zn s x.Ga<0)with
   |true=>
    refine⟨_,by simp only[go_sem,c10L4b,hg,hlt,hw,h0,h1,h2,h3,ZVA,ZVC,ZVE,n0,n11,n12,ne,p0,p1,p2,p3];rfl,?_⟩
    simp only[go_sem]
   |false=>
   have hneg:decide (Zn s x.Ga>=0)=true:=by have:=of_decide_eq_false p3;exact decide_eq_true<|by omega
   obtain⟨j,d,hj,hdj⟩:=ZPc _ s.Bc hneg;have hj':Zn s x.Ga=(j:Int):=hj;have hgd:=Z6 (f:=Ga.enc) hdj;rw[show Ga.enc d=Zo d from rfl]at hgd
   have ed:QN s (j:Int)=d.Ld:=by unfold QN;rw[ZWJ,hdj]
   have nd:(d.Ld != -1) = !(d.Ld==-1):=rfl;rw[p0,p1,p2,p3,ZVE,ZVD,ZVD,ZVD,ZVD,hj',ed]at hP;rw[hj']at h3 p3;unfold Zo at hgd;unfold uwB at hP;cases q:(x.Ld==-1)with
   |true=>
    rw[q,cond_true]at hP;cases y:(x.Why==0)with
    |false=>
     refine⟨_,by simp only[go_sem,c10L4b,hg,hlt,hw,h0,h1,h2,h3,ZVA,ZVC,ZVE,n0,n11,n12,ne,nd,hgd,p0,p1,p2,p3,q,y];rfl,?_⟩
     simp only[go_sem]
    |true=>
     rw[y,ZVD]at hP;refine⟨_,by simp only[go_sem,c10L4b,hg,hlt,hw,h0,h1,h2,h3,ZVA,ZVC,ZVE,n0,n11,n12,ne,nd,hgd,p0,p1,p2,p3,q,y,hP];rfl,?_⟩
     simp only[go_sem]
   |false=>
    rw[q,cond_false,ZXc]at hP;refine⟨_,by simp only[go_sem,c10L4b,hg,hlt,hw,h0,h1,h2,h3,ZVA,ZVC,ZVE,n0,n11,n12,ne,nd,hgd,p0,p1,p2,p3,q,hP.1,hP.2];rfl,?_⟩
    simp only[go_sem])
  (⟨_,by simp only[go_sem,c10L4b,ZG,ZVA];rfl⟩)
 rw[QE]at L;exact L
def ZOv(s:Sta)(hs:StR s):pfn rE 10 [stA s]=some (.bool<|Jx s):=by
 have hz:=hs.toStE.sizes;have e:Jx s=(Jq (Qp s)&&(WK s&&(Wh s.Bc&&(s.Fa.all rgR&&(s.Gm.all stR&&(s.Bt.all buR&&(Zu (ZOB s) 0 s.Bc&&s.Nk.all (ZOu s)))))))):=by
  unfold Jx;rw[show s.Fa.all Vo=s.Fa.all rgR from ZOk λx _=>(ZUo x).symm,show s.Gm.all Vp=s.Gm.all stR from ZOk λx _=>(ZUq x).symm,
   show s.Bt.all Vq=s.Bt.all buR from ZOk λx _=>(ZUs x).symm,show s.Nk.all (Vs s)=s.Nk.all (ZOu s)from ZOk λx _=>(ZUv s x).symm,
   show Zu (Vr s) 0 s.Bc=Zu (ZOB s) 0 s.Bc from ZOS _ _ λi x=>(ZU5 s i x).symm]
  cases Jq (Qp s)<;>cases WK s<;>cases Wh s.Bc<;>simp
 have hu:=ZUg s hz;have hp:=ZUn s hz hs.mg;have hn:=ZU6 s hz;rw[ZU8]at hn;obtain⟨f0,L0,a0,b0⟩:=ZUp s hs;obtain⟨f1,L1,a1,b1⟩:=ZUr s hs;obtain⟨f2,L2,a2,b2⟩:=ZUt s hs;obtain⟨f3,L3,a3,b3⟩:=ZUu s hs;obtain⟨f4,L4,b4⟩:=ZUw s hs;rw[Z5 (f:=10) rfl rfl,e];cases c0:Jq (Qp s)with
 |false=>simp only[go_sem,c10,hu,hp,hn,c0,ZVC,ZVE,ZVD,ZVG,ZVI,if_false,if_true]
 |true=>
 cases c1:WK s with
 |false=>simp only[go_sem,c10,hu,hp,hn,c0,c1,ZVC,ZVE,ZVD,ZVG,ZVI,if_false,if_true]
 |true=>
 cases c2:Wh s.Bc with
 |false=>simp only[go_sem,c10,hu,hp,hn,c0,c1,c2,ZVC,ZVE,ZVD,ZVG,ZVI,if_false,if_true]
 |true=>
 cases d0:s.Fa.all rgR with
 |false=>rw[d0]at L0;simp only[go_sem,c10,c10L0,hu,hp,hn,c0,c1,c2,L0,b0 d0,ZVC,ZVE,ZVD,ZVG,ZVI,if_false,if_true]
 |true=>
 rw[d0]at L0;cases d1:s.Gm.all stR with
 |false=>rw[d1]at L1;simp only[go_sem,c10,c10L0,c10L1,hu,hp,hn,c0,c1,c2,L0,a0 d0,L1,b1 d1,ZVC,ZVE,ZVD,ZVG,ZVI,if_false,if_true]
 |true=>
 rw[d1]at L1;cases d2:s.Bt.all buR with
 |false=>rw[d2]at L2;simp only[go_sem,c10,c10L0,c10L1,c10L2,hu,hp,hn,c0,c1,c2,L0,a0 d0,L1,a1 d1,L2,b2 d2,ZVC,ZVE,ZVD,ZVG,ZVI,if_false,if_true]
 |true=>
 rw[d2]at L2;cases d3:Zu (ZOB s) 0 s.Bc with
 |false=>rw[d3]at L3;simp only[go_sem,c10,c10L0,c10L1,c10L2,c10L3,hu,hp,hn,c0,c1,c2,L0,a0 d0,L1,a1 d1,L2,a2 d2,L3,b3 d3,ZVC,ZVE,ZVD,ZVG,ZVI,if_false,if_true]
 |true=>
 rw[d3]at L3;cases d4:s.Nk.all (ZOu s)with
 |false=>rw[d4]at L4;simp only[go_sem,c10,c10L0,c10L1,c10L2,c10L3,c10L4,hu,hp,hn,c0,c1,c2,L0,a0 d0,L1,a1 d1,L2,a2 d2,L3,a3 d3,L4,b4 d4,ZVC,ZVE,ZVD,ZVG,ZVI,if_false,if_true]
 |true=>
 rw[d4]at L4;simp only[go_sem,c10,c10L0,c10L1,c10L2,c10L3,c10L4,hu,hp,hn,c0,c1,c2,L0,a0 d0,L1,a1 d1,L2,a2 d2,L3,a3 d3,L4,ZVC,ZVE,ZVD,ZVG,ZVI,if_false,if_true]
end Go.AM
namespace Go.AM
open Go
def Z4M(E:Env)(hf:E.fn 80=some a80)(hs:E.sum 80=none)(v:Str):pfn E 80 [.str v]=some (.str v):=by
 rw[Z5 (f:=80) hs hf];simp only[go_sem,c80]
def ZGM(E:Env)(hf:E.fn 82=some a82)(hs:E.sum 82=none)(v:Str)(a b:Int):pfn E 82 [.agg [.str v,I a,I b]]=some (.str v):=by
 rw[Z5 (f:=82) hs hf];simp only[go_sem,c82]
def ZFO(v:Str):pfn e0 229 [.str v]=some (.bool false):=by
 have hn:Z3 v v=true:=by unfold Z3;simp
 rw[Z5 (f:=229) rfl rfl];simp only[go_sem,c229,hn,ZVC]
def ZEA(a b:Str):WW a b=decide (a.data.toList<b.data.toList):=by
 unfold WW;rw[Go.Proofs.bytesLess_eq]
def ZFP(a b:Str):pfn e0 165 [.str a,.str b]=some (I<|ZEg a.data.toList b.data.toList):=by
 have h1:=ZFO a;have h2:=ZFO b;unfold ZEg;rw[<-ZEA,<-ZEA];rw[Z5 (f:=165) rfl rfl];cases c:WW a b with
 |true=>simp only[go_sem,c165,h1,h2,c]
 |false=>
  cases c2:WW b a with
  |true=>
   have c5003:Z3 a b=false:=by
    cases h:Z3 a b with
    |false=>rfl
    |true=>
     exfalso;have he:a.data.toList=b.data.toList:=by unfold Z3 at h;simpa using h
     rw[ZEA,he,decide_eq_true_iff]at c2;exact List.lt_irrefl _ c2
   simp only[go_sem,c165,h1,h2,c,c2,c5003,ZVE,ZW9]
  |false=>
   have c5003:Z3 a b=true:=by
    rw[ZEA,decide_eq_false_iff_not]at c c2;unfold Z3;simp only[beq_iff_eq];exact ZY3 c2 c
   simp only[go_sem,c165,h1,h2,c,c2,c5003,ZVC,ZWe]
def ZEa(k:Nat):AV:=.clo (.func k) [] []
def ZFQ{k:Nat}{caps:List AV}(h:ckS k caps=true):caps=[.iptr false [ZEa k]]:=by
 unfold ckS at h;split at h
 .rw[ZXF h];rfl
 .cases h
def ZUx(caps:List AV)(x y:List UInt8)(h:ckS 80 caps=true):∃h',fnV e0 164 ([Qd x,Qd y]++caps) []=some (.int .i64<|ZEg x y,h'):=by
 obtain rfl:=ZFQ h;have h1:=Z4M e0 rfl rfl;have h2:=ZFP ⟨x.toArray⟩ ⟨y.toArray⟩;simp only[List.toList_toArray]at h2;unfold Qd ZEa;rw[Q6 (f:=164) rfl rfl];simp only[ZW0,ZWb];exact⟨_,by simp only[go_sem,c164,h1,h2];rfl⟩
def ZE4(s:Str):List Int:=s.data.toList.map λb=>(b.toNat:Int)
def ZEM:∀x y:List UInt8,lexB (x.map λb=>(b.toNat:Int)) (y.map λb=>(b.toNat:Int))=decide (x<y)
 |[],[]=>by simp[lexB]
 |[],_::_=>by simp[lexB]
 |_::_,[]=>by simp[lexB]
 |a::r,b::s=>by
  simp only[ZVV,lexB,ZEM r s];rw[ZW1];simp only[ZXb,ZVB,decide_eq_true_eq,beq_iff_eq,List.cons_lt_cons_iff,UInt8.lt_iff_toNat_lt,<-UInt8.toNat_inj,Int.ofNat_lt,Int.natCast_inj]
def ZGO(x y:List UInt8):cmpL (x.map λb=>(b.toNat:Int)) (y.map λb=>(b.toNat:Int))=ZEg x y:=by
 unfold cmpL ZEg;rw[ZEM,ZEM]
def ZFR{caps:List AV}{x:AV}{k:List Int}(h:ZEm caps x=some k):caps=[.iptr false [ZEa 82]]/\∃(s:Str)(a b:Int),x=.agg [.str s,I a,I b]/\k=ZE4 s:=by
 unfold ZEm at h;cases hc:ckS 82 caps with
 |false=>rw[hc]at h;cases h
 |true=>
  rw[hc,cond_true]at h;refine⟨ZFQ hc,?_⟩;unfold ZEf at h;split at h
  .cases h;exact⟨_,_,_,rfl,rfl⟩
  .cases h
def ZUy(caps:List AV)(x y:AV)(kx ky:List Int)(hx:ZEm caps x=some kx)(hy:ZEm caps y=some ky):∃h',fnV e0 167 ([x,y]++caps) []=some (.int .i64<|cmpL kx ky,h'):=by
 obtain⟨rfl,s,a,b,rfl,rfl⟩:=ZFR hx;obtain⟨_,t,a',b',rfl,rfl⟩:=ZFR hy;have h1:=ZGM e0 rfl rfl;have h2:=ZFP s t;unfold ZE4 ZEa;rw[ZGO,Q6 (f:=167) rfl rfl];simp only[ZW0,ZWb];exact⟨_,by simp only[go_sem,c167,h1,h2];rfl⟩
def ZFS{h:Hp}{b:Nat}{o o2:AObj}(hb:h[b]?=some o2):(setH h b o).length=h.length:=by
 have hl:b<h.length:=(ZVK.1 hb).1;unfold setH;rw[show Nat.blt b h.length=true by simpa using hl,cond_true,ZWG]
def ZE5{n:Nat}{fr:Fr}{h:Hp}(hl:h.length=n):Xq n fr h=h:=by
 unfold Xq;rw[ZW5<|by omega]
 cases Zd n (fr.map (·.2))&&X4 n h<;>rfl
def ZUz(args:List AV)(h:Hp)(v:AV)(wr:Option<|Nat×AObj)(he:ZE8 (ZE7 80) h args=some (v,wr)):fnV e1 79 args h=some (v,ZH h wr):=by
 unfold ZE8 at he;split at he
 .rename_i b g off len ex r;split at he
  .rename_i sz es hb;cases hc:es.length==g&&(off==0&&(len==g&&noP r))with
   |false=>rw[hc]at he;cases he
   |true=>
    rw[hc,cond_true]at he;simp only[ZVP]at he;obtain⟨es',h1,h2⟩:=he;cases h2;unfold ZE7 at h1;split at h1
    .rename_i k;cases hc2:Nat.beq k 80&&(sz==1&&(es.all WB&&Nat.ble es.length 1000000))with
     |false=>rw[hc2]at h1;cases h1
     |true=>
      rw[hc2]at h1;cases h1;simp only[ZVB,beq_iff_eq]at hc hc2;obtain⟨c1,rfl,c5003,c5004⟩:=hc2;obtain rfl:=ZXF c1;obtain⟨rfl,rfl,rfl,_⟩:=hc;have hs:fnV e1 163 [.sl b es.length 0 es.length ex,.clo (.func 164) [] [.iptr false [.clo (.func 80) [] []]]] h=some (.tup [],setH h b<|.row 1<|Yk es):=by
       rw[V8 (s:=ZEt 164<|ckS 80) rfl];unfold ZEt;simp only[hb,c5003,c5004,beq_self_eq_true,ZVD,ZVJ,cond_true];rfl
      rw[Q6 (f:=79) rfl rfl];simp only[go_sem,c79,hs,ZH,ZE5<|ZFS hb]
    .cases h1
  .cases he
 .rename_i bw ex sz r;cases hn:noP r with
  |false=>rw[hn]at he;cases he
  |true=>
   rw[hn,cond_true]at he;split at he
   .rename_i h1;cases he;unfold ZE7 at h1;split at h1
    .rename_i k;have hs:∀sz,fnV e1 163 [.isl bw ex sz [],.clo (.func 164) [] [.iptr false [.clo (.func k) [] []]]] h=some (.tup [],h):=λsz=>by
      rw[V8 (s:=ZEt 164<|ckS 80) rfl];rfl
     rw[Q6 (f:=79) rfl rfl];simp only[go_sem,c79,hs,ZH,ZE5 (h:=h) rfl]
    .cases h1
   .cases he
 .rename_i b r;split at he
  .rename_i sz e sz2 es ks vs _ _ _;cases hk:Z4 ks&&Z4 vs with
   |false=>rw[hk]at he;cases he
   |true=>
    rw[hk,cond_true]at he;have hnone:∀{k:Nat}{x y:List AV}{z:Nat},ZE7 80 (.ptr k 0 0 z::r) sz x=some y->False:=λh=>by
     cases r<;>simp[ZE7]at h
    split at he
    .rename_i hh;exact(hnone hh).elim
    .cases he
  .cases he
 .cases he
def ZUA(args:List AV)(h:Hp)(v:AV)(wr:Option<|Nat×AObj)(he:ZE8 (ZEe 82 3 ZEf) h args=some (v,wr)):fnV e1 81 args h=some (v,ZH h wr):=by
 unfold ZE8 at he;split at he
 .rename_i b g off len ex r;split at he
  .rename_i sz es hb;cases hc:es.length==g&&(off==0&&(len==g&&noP r))with
   |false=>rw[hc]at he;cases he
   |true=>
    rw[hc,cond_true]at he;simp only[ZVP]at he;obtain⟨es',h1,h2⟩:=he;cases h2;unfold ZEe at h1;split at h1
    .rename_i k;split at h1
     .rename_i l hl;cases hc2:Nat.beq k 82&&(sz==3&&(Z4 es&&(es.all Zwl&&(es.all (fits 3)&&(ZvJ l&&Nat.ble es.length 1000000)))))with
      |false=>rw[hc2]at h1;cases h1
      |true=>
       rw[hc2]at h1;cases h1;simp only[ZVB,beq_iff_eq]at hc hc2;obtain⟨c1,rfl,c5003,c5004,c5005,c5006,c5007⟩:=hc2;obtain rfl:=ZXF c1;obtain⟨rfl,rfl,rfl,_⟩:=hc;have hs:fnV e1 166 [.sl b es.length 0 es.length ex,.clo (.func 167) [] [.iptr false [.clo (.func 82) [] []]]] h=some (.tup [],setH h b (.row 3 ((ZvN l).map (·.2)))):=by
        rw[V8 (s:=ZvW 167 3 ZEm) rfl];unfold ZvW;have hk:keysOf (ZEm [.iptr false [.clo (.func 82) [] []]]) es=some l:=hl;cases es with
        |nil=>
         cases hl;simp only[hb];have e1:setH h b (.row 3 [])=h:=RT hb;exact congrArg some<|Prod.ext rfl e1.symm
        |cons a r=>
         simp only[hb,hk,c5003,c5004,c5005,c5006,c5007,beq_self_eq_true,ZVD,ZVJ,cond_true,ZY2,cond_false,ZVE];rfl
       rw[Q6 (f:=81) rfl rfl];simp only[go_sem,c81,hs,ZH,ZE5<|ZFS hb]
     .cases h1
    .cases h1
  .cases he
 .rename_i bw ex sz r;cases hn:noP r with
  |false=>rw[hn]at he;cases he
  |true=>
   rw[hn,cond_true]at he;split at he
   .rename_i h1;cases he;unfold ZEe at h1;split at h1
    .rename_i k;have hs:∀sz,fnV e1 166 [.isl bw ex sz [],.clo (.func 167) [] [.iptr false [.clo (.func k) [] []]]] h=some (.tup [],h):=λsz=>by
      rw[V8 (s:=ZvW 167 3 ZEm) rfl];rfl
     rw[Q6 (f:=81) rfl rfl];simp only[go_sem,c81,hs,ZH,ZE5 (h:=h) rfl]
    .cases h1
   .cases he
 .rename_i b r;split at he
  .rename_i sz e sz2 es ks vs _ _ _;cases hk:Z4 ks&&Z4 vs with
   |false=>rw[hk]at he;cases he
   |true=>
    rw[hk,cond_true]at he;have hnone:∀{k:Nat}{x y:List AV}{z:Nat},ZEe 82 3 ZEf (.ptr k 0 0 z::r) sz x=some y->False:=λh=>by
     cases r<;>simp[ZEe]at h
    split at he
    .rename_i hh;exact(hnone hh).elim
    .cases he
  .cases he
 .cases he
variable [REdz]
def ZUB(bw ex:Bool)(l:List Str)(x:Str)(hl:l.length<=1000000):pfn rE 87 [.isl bw ex 1<|l.map encS,.str x]=some (.bool<|l.any<|λy=>Z3 y x):=by
 have L:=Uf (E:=rE) (live:=[0,1,5]) (b:=c87L0b) (h:=[]) l (λ_ y=>!Z3 y x) (λi=>[(0,.isl bw ex 1<|l.map encS),(1,.str x),(5,I i)]) 0 (λfr=>get fr 4=.bool true) (λk=>rfl)
  (λi y hy hP=>by
   have hg:=Z6 (f:=encS) hy;have hlt:=Zh<|Z7 hy;have hw:=Zx (n:=i) (by have:=Z7 hy;omega)
   have hP':Z3 y x=false:=by simpa using hP
   cases bw<;>refine⟨_,by simp only[go_sem,c87L0b,hg,hlt,hw,encS,hP',ZVA];rfl,?_⟩<;>simp only[go_sem])
  (λi y hy hP=>by
   have hg:=Z6 (f:=encS) hy;have hlt:=Zh<|Z7 hy;have hP':Z3 y x=true:=by simpa using hP
   cases bw<;>refine⟨_,by simp only[go_sem,c87L0b,hg,hlt,encS,hP',ZVA];rfl,?_⟩<;>simp only[go_sem])
  (⟨_,by simp only[go_sem,c87L0b,ZG,ZVA];rfl⟩)
 rw[QE,<-ZOU]at L;obtain⟨fr',h1,h2⟩:=L;have h1':Zg rE [0,1,5] c87L0b [(0,.isl bw ex 1<|l.map encS),(1,.str x),(5,.int .i64 0)] []=_:=h1;rw[Z5 (f:=87) rfl rfl];cases hc:l.any (λy=>Z3 y x)with
 |true=>
  rw[hc]at h1' h2;simp only[go_sem,c87,c87L0,h1',h2 rfl,ZVC,ZVI,if_false]
 |false=>
  rw[hc]at h1';simp only[go_sem,c87,c87L0,h1',ZVE,if_true]
def ZRs(b1 e1 b2 e2:Bool)(a b:List Str)(ha:a.length<=1000000):pfn rE 26 [.isl b1 e1 1<|a.map encS,.isl b2 e2 1<|b.map encS]=some (.bool<|ZOd Z3 a b):=by
 rw[Z5 (f:=26) rfl rfl];unfold ZOd;cases hc:((a.length:Int)==(b.length:Int))with
 |false=>simp only[go_sem,c26,hc,ZVA,ZOz,ZVE,ZVG]
 |true=>
  have hl:a.length=b.length:=by have:=eq_of_beq hc;omega
  have L:=Uf (E:=rE) (live:=[0,1,5]) (b:=c26L0b) (h:=[]) a (ZO5 Z3 b) (λi=>[(0,.isl b1 e1 1<|a.map encS),(1,.isl b2 e2 1<|b.map encS),(5,I i)]) 0 (λfr=>get fr 4=.bool false) (λk=>rfl)
   (λi x hx hP=>by
    obtain⟨y,hy,e⟩:=ZOr (eq:=Z3) hl hx;rw[e]at hP;have hgx:=Z6 (f:=encS) hx;have hgy:=Z6 (f:=encS) hy;have hlt:=Zh<|Z7 hx;have hw:=Zx (n:=i) (by have:=Z7 hx;omega)
    cases b1<;>cases b2<;>refine⟨_,by simp only[go_sem,c26L0b,hgx,hgy,hlt,hw,encS,hP,ZVA,ZVC];rfl,?_⟩<;>simp only[go_sem])
   (λi x hx hP=>by
    obtain⟨y,hy,e⟩:=ZOr (eq:=Z3) hl hx;rw[e]at hP;have hgx:=Z6 (f:=encS) hx;have hgy:=Z6 (f:=encS) hy;have hlt:=Zh<|Z7 hx;cases b1<;>cases b2<;>refine⟨_,by simp only[go_sem,c26L0b,hgx,hgy,hlt,encS,hP,ZVA,ZVE];rfl,?_⟩<;>simp only[go_sem])
   (⟨_,by simp only[go_sem,c26L0b,ZG,ZVA];rfl⟩)
  obtain⟨fr',h1,h2⟩:=L;have h1':Zg rE [0,1,5] c26L0b [(0,.isl b1 e1 1<|a.map encS),(1,.isl b2 e2 1<|b.map encS),(5,.int .i64 0)] []=_:=h1;cases hA:Zu (ZO5 Z3 b) 0 a with
  |false=>rw[hA]at h1';simp only[go_sem,c26,c26L0,hc,h1',h2 hA,ZVA,ZOz,ZVC,ZVD,ZVI]
  |true=>rw[hA]at h1';simp only[go_sem,c26,c26L0,hc,h1',ZVA,ZOz,ZVC,ZVD]
def ZOh(x:Str)(st:List Str×Bool)(y:Str):List Str×Bool:=
 (bif Z3 y x then(bif !st.2&&!WW y x then st.1++[x]else st.1)else(bif !st.2&&!WW y x then st.1++[x]else st.1)++[y],st.2||!WW y x)
def ZO7(x:Str)(l:List Str)(i:Nat):List Str×Bool:=(l.take i).foldl (ZOh x) ([],false)
def ZOw(x:Str)(l:List Str):List Str:=bif (ZO7 x l l.length).2 then(ZO7 x l l.length).1 else(ZO7 x l l.length).1++[x]
def ZQ0{x y:Str}{l:List Str}{i:Nat}(h:l[i]?=some y):ZO7 x l (i+1)=ZOh x (ZO7 x l i) y:=by
 unfold ZO7;rw[Us _ _ h]
def ZQ1(x:Str)(l:List Str):∀i,i<=l.length->(ZO7 x l i).1.length<=2*i
 |0,_=>by simp[ZO7]
 |i+1,h=>by
  obtain⟨y,hy⟩:∃y,l[i]?=some y:=⟨_,ZVH<|by omega⟩
  have ih:=ZQ1 x l i<|by omega
  rw[ZQ0 hy];unfold ZOh;cases Z3 y x<;>cases !(ZO7 x l i).2&&!WW y x<;>simp<;>omega
def ZRt(ex:Bool)(l:List Str)(x:Str)(hl:l.length<=100000):pfn rE 84 [.isl false ex 1<|l.map encS,.str x]=some (.isl false false 1<|(ZOw x l).map encS):=by
 have hbS:∀n(K:List Str),Zd n (K.map encS)=true:=λn K=>ZN _<|Zw (λt=>rfl) K
 have ha:∀(K:List Str)(z:Str),K.length<=1000000->appW [.row 1<|K.map encS] false 1 16 (.sl 0 K.length 0 K.length false) (.isl false false 1 [.str z])=some (.sl 0 (K++[z]).length 0 (K++[z]).length false,[.row 1<|(K++[z]).map encS]):=λK z hK=>by
  have h:=XC (h:=[.row 1<|K.map encS]) (fz:=false) (b:=0) (g:=K.length) (sz:=1) (es:=K.map encS) (bw:=false) (ex:=false) (ys:=[.str z]) (bytes:=16) (by simp[rowAt]) rfl (by rfl) (by omega) (by omega) (by simp;omega)
  rw[h,ZVQ,ZW7];rfl
 have L:=Y8 (E:=rE) (live:=[0,1,5,6,7]) (b:=c84L0b) l.length (λi=>[(0,.isl false ex 1<|l.map encS),(1,.str x),(5,.sl 0 (ZO7 x l i).1.length 0 (ZO7 x l i).1.length false),(6,.bool (ZO7 x l i).2),(7,I i)])
  (λi=>[.row 1<|(ZO7 x l i).1.map encS]) (λi=>rfl)
  (λi hi=>by
   obtain⟨y,hy⟩:∃y,l[i]?=some y:=⟨_,ZVH hi⟩;have hg:=Z6 (f:=encS) hy;have hi':=Zh hi;have hw:=Zx (n:=i)<|by omega
   have hlen:=ZQ1 x l i<|by omega
   rw[ZQ0 hy];generalize ZO7 x l i=st at hlen⊢;obtain⟨K,d⟩:=st;have h1:=ha K x<|by simp at hlen;omega
   have h2:=ha K y<|by simp at hlen;omega
   have h3:=ha (K++[x]) y<|by simp at hlen⊢;omega
   have e1:(K++[x]).length=K.length+1:=by simp
   rw[e1]at h3;unfold ZOh;dsimp only;cases d with
   |true=>
    cases c2:Z3 y x<;>refine⟨_,by simp only[go_sem,c84L0b,hg,hi',hw,encS,h1,h2,c2,hbS,ZVA,ZVC,ZVE,ZVG,ZVR,ZVS];rfl,?_⟩<;>simp only[go_sem,ZVC,ZVG,ZVR]
   |false=>
    cases c1:WW y x with
    |true=>
     cases c2:Z3 y x<;>refine⟨_,by simp only[go_sem,c84L0b,hg,hi',hw,encS,h1,h2,c1,c2,hbS,ZVA,ZVC,ZVE,ZVL,ZVD,ZVS];rfl,?_⟩<;>simp only[go_sem,ZVC,ZVE,ZVL,ZVD,ZVS]
    |false=>
     cases c2:Z3 y x<;>refine⟨_,by simp only[go_sem,c84L0b,hg,hi',hw,encS,h1,h3,c1,c2,hbS,ZVA,ZVC,ZVE,ZVJ,ZVD,ZVS];rfl,?_⟩<;>simp only[go_sem,ZVE,ZVJ,ZVS])
  (e:=.exit 0) (by simp only[go_sem,c84L0b,ZG,ZVA];rfl) (by simp)
 have L':Zg rE [0,1,5,6,7] c84L0b [(0,.isl false ex 1<|l.map encS),(1,.str x),(5,.sl 0 0 0 0 false),(6,.bool false),(7,.int .i64 0)] [.row 1 []]=_:=L;have hlen:=ZQ1 x l l.length<|ZVF _;rw[Z5 (f:=84) rfl rfl];unfold ZOw;generalize ZO7 x l l.length=st at hlen L'⊢;obtain⟨K,d⟩:=st;have h1:=ha K x<|by simp at hlen;omega
 have hct:∀K:List Str,Z4 (K.map encS)=true:=λK=>Zw (λt=>rfl) K
 have htk:∀K:List Str,List.take K.length (K.map encS)=K.map encS:=λK=>ZW5<|by simp
 have htk2:List.take (K.length+1) ((K++[x]).map encS)=(K++[x]).map encS:=ZW5<|by simp
 cases d<;>simp only[go_sem,c84,c84L0,L',h1,hbS,hct,htk,htk2,beq_self_eq_true,ZVC,ZVE]
def ffr(t:AV):Fr:=[(4,.ptr 0 0 0 1),(5,I 0),(7,.ptr 3 0 0 1),(19,t)]
def fP(lp:AObj)(D E:List AV)(tl:List AObj):List AObj:=
 .row 2 [.agg [.isl false false 1 [],.isl false false 3 []]]::.row 1 D::.row 3 E::.row 2 [.agg [.sl 1 D.length 0 D.length false,.sl 2 E.length 0 E.length false]]::lp::tl
def feL(st:LoopState)(t:AV):AObj:=.loop st .normal (ffr t) [20] c19R0a c19R0b
def ZEp(h:Hp)(x y:AObj):setH (h++[x]) h.length y=h++[y]:=by
 unfold setH;rw[show Nat.blt h.length (h++[x]).length=true by simp,cond_true,ZXr _ _<|ZVF _]
 simp
def ZGS(t:AV)(d:Ga)(lp:AObj)(D E:List AV)(tl:List AObj):Zb rE c19R0a ((20,d.enc)::ffr t) (fP lp D E tl)=some (.normal,(8,.ptr (tl.length+5) 0 0 1)::(20,d.enc)::ffr t,fP lp D E<|tl++[.row 16 [d.enc]]):=by
 simp only[go_sem,c19R0a,fP,ffr,Ga.enc,NL.enc,ZW0,ZVU,ZEp]
def ZEx{n:Nat}{h:Hp}{b:Bool}(hl:h.length=n):trimB n h b=h:=by
 unfold trimB;cases b with
 |true=>rw[cond_true,ZW5<|by omega]
 |false=>rfl
def ZF2(r0 r1 r2 r3 r4 x:AObj)(tl:List AObj)(b:Bool):trimB (tl.length+1+1+1+1+1+1) (r0::r1::r2::r3::r4::(tl++[x])) b=r0::r1::r2::r3::r4::(tl++[x]):=ZEx<|by simp
def faD(d:Ga)(D:List AV):List AV:=bif decide (d.Ld<0)then D++[.str d.Id]else D
def ZEB(d:Ga):AV:=.agg [.str d.Id,I d.Why,I d.Ld]
def faE(d:Ga)(E:List AV):List AV:=bif !decide (d.Ld<0)&&d.After.l.isEmpty then E++[ZEB d]else E
def ZGT(t:AV)(d:Ga)(lp:AObj)(D E:List AV)(tl:List AObj)(h1:D.length<=1000)(h2:E.length<=1000):Zb rE c19R0b ((8,.ptr (tl.length+5) 0 0 1)::(20,d.enc)::ffr t) (fP lp D E<|tl++[.row 16 [d.enc]]) =
 some (.normal,[],fP lp (faD d D) (faE d E)<|tl++[.row 16 [d.enc]]):=by
 have a1:=λ(r0 r2 r3 r4:AObj)(tl:List AObj)=>XC (h:=r0::.row 1 D::r2::r3::r4::tl) (fz:=false) (b:=1) (g:=D.length) (sz:=1) (es:=D) (bw:=false) (ex:=false) (ys:=[.str d.Id]) (bytes:=16) (by simp[rowAt]) rfl (by rfl) (by omega) (by omega) (by simp;omega)
 have a2:=λ(r0 r1 r3 r4:AObj)(tl:List AObj)=>XC (h:=r0::r1::.row 3 E::r3::r4::tl) (fz:=false) (b:=2) (g:=E.length) (sz:=3) (es:=E) (bw:=false) (ex:=false) (ys:=[ZEB d]) (bytes:=32) (by simp[rowAt]) rfl (by rfl) (by omega) (by omega) (by simp;omega)
 unfold ZEB at a2;unfold faD faE;cases c:decide (d.Ld<0)with
 |true=>simp only[go_sem,c19R0b,fP,ffr,Ga.enc,NL.enc,ZW0,ZVU,ZEp,ZF2,c,a1,ZVQ,ZWs,ZVC,ZVG]
 |false=>
  cases c2:d.After.l with
  |nil=>
   have z0:(((0:Nat):Int)==0)=true:=rfl;simp only[go_sem,z0,c19R0b,fP,ffr,Ga.enc,NL.enc,ZW0,ZVU,ZEp,ZF2,c,c2,a2,ZEB,ZVQ,ZWs,ZVE,ZVD,List.isEmpty_nil,ZWy]
  |cons a r=>
   have hz:(((r.length+1:Nat):Int)==0)=false:=by
    rw[beq_eq_false_iff_ne];omega
   simp only[go_sem,c19R0b,fP,ffr,Ga.enc,NL.enc,ZW0,ZVU,ZEp,ZF2,c,c2,hz,ZVQ,ZWs,ZVE,ZVD,ZY2,ZVV,ZVA]
def ZGU(t:AV)(d:Ga)(D E:List AV)(tl:List AObj)(h1:D.length<=1000)(h2:E.length<=1000):
 U4 rE 4 [d.enc] (fP (feL .ready t) D E tl)=some (.bool true,fP (feL .ready t) (faD d D) (faE d E)<|tl++[.row 16 [d.enc]]):=by
 have h:=Ss (E:=rE) (b:=4) (args:=[d.enc]) (h:=fP (feL .ready t) D E tl) (fr:=ffr t) (ps:=[20]) (assign:=c19R0a) (body:=c19R0b)
  (fr0:=(20,d.enc)::ffr t) rfl rfl (ZGS t d (feL .ready t) D E tl) (h1:=fP (feL .ready t) D E<|tl++[.row 16 [d.enc]]) rfl
  (e:=.normal) (fr2:=[]) (h2:=fP (feL .busy t) (faD d D) (faE d E)<|tl++[.row 16 [d.enc]]) (ZGT t d (feL .busy t) D E tl h1 h2) rfl
 exact h
def TC'(tl:List AObj):Prop:=∀n,X4 n tl=true
def ZEu:∀(n:Nat)(a b:List AObj),X4 n (a++b)=(X4 n a&&X4 n b)
 |_,[],b=>by simp[X4]
 |n,x::a,b=>by simp[X4,ZEu n a b,ZWV]
def ZEN{n:Nat}:∀{a:List AObj}{i:Nat}{x:AObj},X4 n a=true->Zj n x=true->X4 n (a.set i x)=true
 |[],_,_,h,_=>h
 |y::a,0,x,h,hx=>by
  simp only[List.set_cons_zero,X4,ZVB]at h⊢;exact⟨hx,h.2⟩
 |y::a,i+1,x,h,hx=>by
  simp only[List.set_cons_succ,X4,ZVB]at h⊢;exact⟨h.1,ZEN h.2 hx⟩
def ZEv(n:Nat):∀L:List Str,Zd n (L.map encS)=true
 |[]=>rfl
 |x::r=>by simp only[ZVV,Zd,ZEv n r,ZVJ];rfl
def ZEC{h:Hp}{b:Nat}{o:AObj}(hb:b<h.length):setH h b o=h.set b o:=by
 unfold setH;rw[show Nat.blt b h.length=true by simpa using hb,cond_true]
def ZF3(h:Hp)(x:AObj):(h++[x])[h.length]?=some x:=by simp
def wkS(s:List Str×List Str)(x:Str):List Str×List Str:=bif s.1.any (Z3 x)then s else(s.1++[x],s.2++[x])
def ZGW(s:List Str×List Str)(x:Str):(wkS s x).2.length<=s.2.length+1:=by
 unfold wkS;cases s.1.any (Z3 x)<;>simp
def ZF4:∀(l:List Str)(s:List Str×List Str),(l.foldl wkS s).2.length<=s.2.length+l.length
 |[],s=>by simp
 |x::r,s=>by
  have h1:=ZF4 r<|wkS s x;have h2:=ZGW s x;simp only[ZWI,ZVU];omega
def kM(K:List Str):AObj:=.map (K.map encS)<|ZO K.length
def ZGY(d:Ga)(h:Hp):fnV rE 77 [d.enc] h=some (d.After.enc 1 encS,h):=by
 rw[Q6 (f:=77) rfl rfl];simp only[go_sem,c77,Ga.enc,NL.enc,ZE5 (h:=h) rfl]
def grA(s:Sta):AV:=.iptr false<|(stA s).cells++[.clo (.func 77) [] []]
def ZFT(n:Nat):decide (((n+1:Nat):Int)>0)=true:=decide_eq_true<|by omega
def ZEO:∀{n k:Nat}{l:List AObj},X4 n l=true->X4 n (l.take k)=true
 |_,0,_,_=>rfl
 |_,_+1,[],h=>h
 |n,k+1,x::r,h=>by
  simp only[X4,ZVB,ZXt]at h⊢;exact⟨h.1,ZEO h.2⟩
def c71L1m:ACode:=match c162L1b with| .keep _ (.seq _<|.seq (.keep _<|.block _ m) _)=>m|_=>.skip
def c71D:ACode:=match c71L1m with| .seq d _=>d|_=>.skip
def c71Y:ACode:=match c71L1m with| .seq _ (.seq y _)=>y|_=>.skip
def c71Z:ACode:=match c71L1m with| .seq _ (.seq _ z)=>z|_=>.skip
def ZEP(tl L:List AObj)(x:AV)(sz:Nat):rowAt (tl++.row sz [x]::L) tl.length 1=some (sz,[x]):=by
 unfold rowAt;rw[ZWh<|ZVF _,ZX2];rfl
def c71R:ACode:=match c71Z with| .seq r _=>r|_=>.skip
def c71A:ACode:=match c162L1b with| .keep _ (.seq a _)=>a|_=>.skip
def c71C:ACode:=match c162L1b with| .keep _ (.seq _<|.seq _<|.keep _ c)=>c|_=>.skip
def ZFU(n:Nat):bounds (some<|.int .i64 1) none none (n+1)=some (1,n+1,none):=by
 have e:bounds (some<|.int .i64 1) none none (n+1)=bif Nat.ble 1 (n+1)&&Nat.ble (n+1) (n+1)&&VB (n+1) (n+1) none then some (1,n+1,none)else none:=rfl;rw[e,ZWT (show 1<=n+1 by omega),ZWT<|ZVF<|n+1]
 rfl
def ZFV{h:Hp}{b g off n:Nat}{ex:Bool}{es:List AV}(hr:rowAt h b g=some (1,es)):slF h 1 (.sl b g off (n+1) ex) (some (1,n+1,none))=some (.sl b g (off+1) n ex):=by
 simp only[slF,hr,beq_self_eq_true,cond_true,ZVJ,Nat.add_sub_cancel]
def ZEQ:∀(l:List Str)(K L:List Str)(id:Str)(r:List Str),L=id::r->∃r',(l.foldl wkS (K,L)).2=id::r'
 |[],_,_,id,r,h=>⟨r,h⟩
 |x::l,K,L,id,r,h=>by
  rw[ZWI];unfold wkS;cases(K,L).1.any (Z3 x)with
  |true=>exact ZEQ l K L id r h
  |false=>exact ZEQ l (K++[x]) (L++[x]) id (r++[x])<|by rw[h];rfl
inductive Runs(s:Sta):List Str->List Str->List AV->List AV->List AV->List AV->Prop
 |stop (K:List Str) (D E:List AV):Runs s K [] D E D E
 |step (K:List Str) (id:Str) (r:List Str) (D E D' E':List AV) (k:Nat) (d:Ga) (hd:s.Bc[k]?=some d) (hf:pfn rE 12 [stA s,.str id]=some (I k)) (h1:D.length<=1000) (h2:E.length<=1000)
  (h3:(id::r).length+d.After.l.length<=1000) (h:Runs s (d.After.l.foldl wkS (K,id::r)).1 (d.After.l.foldl wkS (K,id::r)).2.tail (faD d D) (faE d E) D' E'):Runs s K (id::r) D E D' E'
def ZJB(x:Str):Z3 x x=true:=by unfold Z3;simp
def h5(t:AV)(D E:List AV):List AObj:=[.row 2 [.agg [.isl false false 1 [],.isl false false 3 []]],.row 1 D,.row 3 E,.row 2 [.agg [.sl 1 D.length 0 D.length false,.sl 2 E.length 0 E.length false]],feL .ready t]
def ZEw(hd tl:List AObj)(x:AObj)(bl g:Nat):rowAt (hd++x::tl) (hd.length+(bl+1)) g=rowAt tl bl g:=by
 unfold rowAt;rw[ZWh (by omega),show hd.length+(bl+1)-hd.length=bl+1 by omega,ZWm]
def ZHA(hd tl:List AObj)(x:AObj)(bl:Nat):(hd++x::tl)[hd.length+(bl+1)]?=tl[bl]?:=by
 rw[ZWh (by omega),show hd.length+(bl+1)-hd.length=bl+1 by omega,ZWm]
def ZEG(hd tl:List AObj)(x:AObj):(hd++x::tl)[hd.length]?=some x:=by
 rw[ZWh<|ZVF _,ZX2];rfl
def ZEV(hd tl:List AObj)(x o:AObj):setH (hd++x::tl) hd.length o=hd++o::tl:=by
 unfold setH;rw[show Nat.blt hd.length (hd++x::tl).length=true by simp,cond_true,ZXr _ _<|ZVF _,ZX2]
 rfl
def ZFd(hd tl:List AObj)(x o:AObj)(bl:Nat):setH (hd++x::tl) (hd.length+(bl+1)) o=hd++x::setH tl bl o:=by
 unfold setH;have e:Nat.blt (hd.length+(bl+1)) (hd++x::tl).length=Nat.blt bl tl.length:=by
  rw[ZW1];simp only[ZWo,ZVQ,ZVU];omega
 rw[e];cases Nat.blt bl tl.length with
 |true=>
  rw[cond_true,cond_true,ZXr _ _ (by omega),show hd.length+(bl+1)-hd.length=bl+1 by omega]
  rfl
 |false=>simp
def ZEH(hd tl:List AObj)(x:AObj):(hd++x::tl).length=hd.length+(tl.length+1):=by simp
def LVm(m:Nat)(Lv:AV)(L:List Str)(tl:List AObj):Prop:=
 ∃bl g off ex es,Lv=.sl (m+(bl+1)) g off L.length ex/\tl[bl]?=some (.row 1 es)/\es.length=g/\off+L.length=g/\es.drop off=L.map encS
def ZHB{m:Nat}{Lv:AV}{L:List Str}{tl:List AObj}(h:LVm m Lv L tl)(l:List AObj):LVm m Lv L (tl++l):=by
 obtain⟨bl,g,off,ex,es,rfl,h2,h3⟩:=h;refine⟨bl,g,off,ex,es,rfl,?_,h3⟩;rw[ZWc (ZVK.1 h2).1];exact h2
def ZHC{m:Nat}{Lv:AV}{L:List Str}{tl:List AObj}{n:Nat}(h:LVm m Lv L tl)(hb:bel (m+(n+1)) Lv=true):LVm m Lv L (tl.take n):=by
 obtain⟨bl,g,off,ex,es,rfl,h2,h3⟩:=h;refine⟨bl,g,off,ex,es,rfl,?_,h3⟩;have:m+(bl+1)<m+(n+1):=by simpa[bel]using hb
 rw[ZY6,if_pos<|by omega]
 exact h2
def ZHD(hd:List AObj)(p5:AObj){Lv:AV}{L:List Str}{tl:List AObj}(x:Str)(hL:LVm hd.length Lv L tl)(hc:TC' tl)(hn:L.length<=1000000):
 ∃tl',tl'.length=tl.length/\TC' tl'/\ZE9 (hd++p5::tl) 1 16 Lv (.isl false false 1 [.str x]) =
  some (.sl (hd.length+(tl.length+1)) (L.length+1) 0 (L.length+1) false,hd++p5::(tl'++[.row 1<|(L++[x]).map encS])):=by
 obtain⟨bl,g,off,ex,es,rfl,hb,hg,hoff,hes⟩:=hL;have hlt:bl<tl.length:=(ZVK.1 hb).1;have hbb:(hd++p5::tl)[hd.length+(bl+1)]?=some (.row 1 es):=by rw[ZHA];exact hb
 have hmap:(L++[x]).map encS=es.drop off++[.str x]:=by rw[ZW7,hes];rfl
 have hlen:(hd++p5::tl).length=hd.length+(tl.length+1):=ZEH _ _ _;cases ex with
 |true=>
  refine⟨tl,rfl,hc,?_⟩;have hel:Q2 (hd++p5::tl) (.sl (hd.length+(bl+1)) g off L.length true)=some (es.drop off):=by
   simp only[Q2,hbb,hg,beq_self_eq_true,cond_true];rw[ZW5<|by simp;omega]
  have hz:Qq (hd++p5::tl) 1 (.sl (hd.length+(bl+1)) g off L.length true)=true:=by simp only[Qq,hbb];rfl
  have hl2:(es.drop off++[AV.str x]).length=L.length+1:=by simp;omega
  have hbd:((es.drop off).length+1)*16<=140737488355328:=by simp;omega
  have he:Qt (hd++p5::tl) (hd++p5::tl).length false 1 16 (.sl (hd.length+(bl+1)) g off L.length true) (.isl false false 1 [.str x]) =
   some (.sl (hd++p5::tl).length (es.drop off++[AV.str x]).length 0 (es.drop off++[AV.str x]).length false,[hd.length+(bl+1)],some ((hd++p5::tl).length,.row 1<|es.drop off++[.str x])):=by
   unfold Qt;rw[hel];dsimp only[Q2];rw[if_pos ⟨hz,rfl,Nat.zero_lt_one,by decide,hbd⟩]
   rfl
  unfold ZE9;dsimp only;rw[he,hmap,hl2,hlen];have e:setH (hd++p5::tl) (hd.length+(tl.length+1)) (.row 1<|es.drop off++[.str x])=hd++p5::(tl++[.row 1<|es.drop off++[.str x]]):=by
   rw[<-hlen,J1,ZVY];rfl
  exact congrArg some<|Prod.ext rfl e
 |false=>
  refine⟨tl.set bl .gone,by simp,λn=>ZEN (hc n) rfl,?_⟩
  have hz:Qq (hd++p5::tl) 1 (.isl false false 1 [.str x])=true:=rfl;have hcond:((es.length==g&&(1==1))&&((off+L.length==g)&&(Qq (hd++p5::tl) 1 (.isl false false 1 [.str x])&&(([AV.str x]:List AV).all (fits 1)&&(Nat.blt 0 ([AV.str x]:List AV).length&&(Nat.blt 0 1&&(Nat.blt 0 16&&Nat.ble ((L.length+([AV.str x]:List AV).length)*16) 140737488355328)))))))=true:=by
   simp only[hg,hoff,hz,beq_self_eq_true,ZVD,ZVJ];have:(L.length+([AV.str x]:List AV).length)*16<=140737488355328:=by simp;omega
   have e2:Nat.ble ((L.length+([AV.str x]:List AV).length)*16) 140737488355328=true:=ZWT this;rw[e2];rfl
  unfold ZE9;simp only[hbb,Q2,hcond,cond_true];rw[ZFd,ZEC hlt,hmap,hlen,ZVY];rfl
def ZEI(hd:List AObj)(x:AObj)(tl:List AObj)(b:Bool):trimB (hd.length+(tl.length+1)) (hd++x::tl) b=hd++x::tl:=ZEx<|by simp
def ZEJ(hd:List AObj)(x:AObj)(tl:List AObj)(fr:Fr):Xq (hd.length+(tl.length+1)) fr (hd++x::tl)=hd++x::tl:=ZE5<|by simp
def ZFe(n g o k:Nat)(ex:Bool)(a b c v q r:AV)(h:Hp):Xq n [(0,a),(2,b),(4,c),(5,.sl n g o k ex),(37,v),(38,q),(39,r)] h=h:=by
 have e:Zd n ([(0,a),(2,b),(4,c),(5,AV.sl n g o k ex),(37,v),(38,q),(39,r)].map (λ(p:Nat×AV)=>p.2))=false:=by
  simp[Zd,bel]
 unfold Xq;rw[e];rfl
def ZEl(hd:List AObj)(v:AV)(A:List Str):Prop:=
 (∀x tl,lnV (hd++x::tl) 1 v=some (I A.length))/\∀(i:Nat)(a:Str),A[i]?=some a->∃p,(∀x tl,iaV (hd++x::tl) 1 v (I i)=some p)/\∀x tl,ldV (hd++x::tl) none p=some (.str a)
def ZHE(hd:List AObj)(ex:Bool)(A:List Str):ZEl hd (.isl false ex 1<|A.map encS) A:=by
 refine⟨λx tl=>by rw[AX,ZVA],λi a h=>⟨.iptr false [.str a],λx tl=>?_,λx tl=>rfl⟩⟩
 have hg:=Z6 (f:=encS) h;rw[AK];simp only[go_sem,hg,encS]
def ZHF{hd:List AObj}{b:Nat}{A:List Str}(hb:hd[b]?=some (.row 1<|A.map encS)):ZEl hd (.sl b A.length 0 A.length false) A:=by
 have hlt:b<hd.length:=(ZVK.1 hb).1;have hr:∀x tl,rowAt (hd++x::tl) b A.length=some (1,A.map encS):=λx tl=>by
  unfold rowAt;rw[ZWc hlt,hb];simp only[ZVA,beq_self_eq_true,cond_true]
 refine⟨λx tl=>by rw[AY,hr];rfl,λi a h=>?_⟩
 have hi:i<A.length:=(ZVK.1 h).1;have hg:=Z6 (f:=encS) h;refine⟨.ptr b i 0 A.length,λx tl=>?_,λx tl=>?_⟩
 .rw[AL,hr];have:=VT b A.length 0 1 i A.length (A.map encS) ⟨Int.natCast_nonneg i,by omega⟩
  rw[this,ZWJ,ZVM]
 .rw[Az,hr];simp only[go_sem,hg,encS]
def ZHG(hd:List AObj)(Y G v:AV)(l:List Str)(hv:ZEl hd v l)(s0:List Str×List Str)(Lv0:AV)(tl0:List AObj)(hL0:LVm hd.length Lv0 s0.2 tl0)(hc0:TC' tl0)(hn:s0.2.length+l.length<=1000000):
 ∃fr' Lv tl,Zg rE [0,2,4,5,37,38,39] c162L0b [(0,Y),(2,G),(4,.mp hd.length),(5,Lv0),(37,v),(38,I l.length),(39,I 0)] (hd++kM s0.1::tl0) =
  some (.exit 2,fr',hd++kM (l.foldl wkS s0).1::tl)/\LVm hd.length Lv (l.foldl wkS s0).2 tl/\TC' tl/\get fr' 0=Y/\get fr' 2=G/\get fr' 4=.mp hd.length/\get fr' 5=Lv:=by
 obtain⟨e,fr',h',L,hQ⟩:=Z9Y (E:=rE) (live:=[0,2,4,5,37,38,39]) (b:=c162L0b) l.length
  (λi fr h=>∃Lv tl,fr=[(0,Y),(2,G),(4,.mp hd.length),(5,Lv),(37,v),(38,I l.length),(39,I i)]/\h=hd++kM ((l.take i).foldl wkS s0).1::tl/\LVm hd.length Lv ((l.take i).foldl wkS s0).2 tl/\TC' tl)
  (λe fr h=>e=.exit 2/\∃Lv tl,h=hd++kM (l.foldl wkS s0).1::tl/\LVm hd.length Lv (l.foldl wkS s0).2 tl/\TC' tl/\get fr 0=Y/\get fr 2=G/\get fr 4=.mp hd.length/\get fr 5=Lv)
  (λi fr h m=>by obtain⟨Lv,tl,rfl,_⟩:=m;rfl)
  (λi fr h hi m=>by
   obtain⟨Lv,tl,rfl,rfl,hL,hc⟩:=m;refine .inl ?_;obtain⟨x,hx⟩:∃x,l[i]?=some x:=⟨_,ZVH hi⟩;obtain⟨p,hg1,hg2⟩:=hv.2 i x hx;have hi':=Zh hi;have hwr:=Zx (n:=i)<|by omega
   have hf:(l.take<|i+1).foldl wkS s0=wkS ((l.take i).foldl wkS s0) x:=Us wkS s0 hx;have hlen:=ZF4 (l.take i) s0;have hle:(l.take i).length<=l.length:=by simp;omega
   rw[hf];generalize(l.take i).foldl wkS s0=s at hL hlen⊢;obtain⟨K,L⟩:=s;have hq:=λ(tl:List AObj)=>H5 (enc:=encS) (eq:=Z3) Z1Y K x (h:=hd++.map (K.map encS) (ZO K.length)::tl) (b:=hd.length)<|ZEG _ _ _
   have hp:=λ(tl:List AObj)=>Ur (enc:=encS) (eq:=Z3) Z1Y K x (h:=hd++.map (K.map encS) (ZO K.length)::tl) (b:=hd.length)<|ZEG _ _ _
   have hlen':L.length<=s0.2.length+(l.take i).length:=hlen;have hL:LVm hd.length Lv L tl:=hL;unfold encS at hq hp;cases c:K.any (Z3 x)with
   |true=>
    have hw:wkS (K,L) x=(K,L):=by unfold wkS;rw[c];rfl
    rw[hw];unfold kM encS;refine⟨_,_,by simp only[go_sem,c162L0b,hg1,hg2,hi',hwr,hq,c,ZEI,ZEJ,ZFe,ZVC,ZVU,ZVQ]<;>rfl,Lv,tl,?_,rfl,hL,hc⟩
    simp only[go_sem]
   |false=>
    obtain⟨tl',hl',hc',ha⟩:=ZHD hd (.map ((Qi Z3 K x).map encS)<|ZO (Qi Z3 K x).length) x hL hc<|by omega
    unfold encS at ha;have hak:Qi Z3 K x=K++[x]:=by unfold Qi;rw[c];rfl
    have hirr:decide (hd.length+(tl.length+1)<hd.length+(tl.length+1))=false:=by simp
    have e1:(K++[x]).length=K.length+1:=by simp
    rw[hak,e1]at ha;have hw:wkS (K,L) x=(K++[x],L++[x]):=by unfold wkS;rw[c];rfl
    rw[hw];unfold kM encS;rw[e1];refine⟨_,_,by simp only[go_sem,c162L0b,hg1,hg2,hi',hwr,hq,hp,c,hak,ha,ZEV,ZEI,ZEJ,ZFe,Z04,hirr,ZVE,ZVL,ZVG,ZVU,ZVQ]<;>rfl,.sl (hd.length+(tl.length+1)) (L.length+1) 0 (L.length+1) false,_,?_,rfl,?_,?_⟩
    .simp only[go_sem]
    .refine⟨tl.length,L.length+1,0,false,(L++[x]).map encS,by simp,by rw[<-hl'];exact ZF3 _ _,by simp,by simp,by simp⟩
    .intro n;rw[ZEu,hc' n];show(true&&(Zj n (.row 1<|(L++[x]).map encS)&&true))=true
     simp only[Zj,ZEv,ZVJ])
  (λfr h m=>by
   obtain⟨Lv,tl,rfl,rfl,hL,hc⟩:=m;rw[ZWj]at hL⊢;refine⟨.exit 2,_,_,by simp only[go_sem,c162L0b,ZG,ZEI,ZEJ,ZFe,kM,ZVU,ZVQ]<;>rfl,by simp,rfl,Lv,tl,rfl,hL,hc,?_⟩
   refine⟨?_,?_,?_,?_⟩<;>simp only[go_sem])
  l.length 0 [(0,Y),(2,G),(4,.mp hd.length),(5,Lv0),(37,v),(38,I l.length),(39,I 0)] (hd++kM s0.1::tl0) (by omega) ⟨Lv0,tl0,rfl,rfl,hL0,hc0⟩
 obtain⟨rfl,Lv,tl,rfl,h1,h2,h3,h4,h5,h6⟩:=hQ;exact⟨fr',Lv,tl,L,h1,h2,h3,h4,h5,h6⟩
structure GRdz(hd:List AObj)(G:AV)(s:Sta)(FC p0 p3 p7:AV):Prop where
 f0:∀x tl,faV (hd++x::tl) 0 G=some p0
 f3:∀x tl,faV (hd++x::tl) 3 p0=some p3
 l3:∀x tl,ldV (hd++x::tl) none p3=some (.isl false false 16<|s.Bc.map Ga.enc)
 l0:∀x tl,ldV (hd++x::tl) (some 7) p0=some (stA s)
 f7:∀x tl,faV (hd++x::tl) 7 G=some p7
 l7:∀x tl,ldV (hd++x::tl) none p7=some FC
 t:∀n,hd.length<=n->(Zs G).contains n=false/\(Zs p0).contains n=false/\(Zs p3).contains n=false
inductive RunsG{σ:Type}(s:Sta)(aft:Ga->List Str)(f:Ga->σ->σ)(ok:σ->Prop):List Str->List Str->σ->σ->Prop
 |stop (K:List Str) (x:σ):RunsG s aft f ok K [] x x
 |step (K:List Str) (id:Str) (r:List Str) (x x':σ) (k:Nat) (d:Ga) (hd:s.Bc[k]?=some d) (hf:pfn rE 12 [stA s,.str id]=some (I k)) (hx:ok x)
  (h3:(id::r).length+(aft d).length<=1000000) (h:RunsG s aft f ok ((aft d).foldl wkS (K,id::r)).1 ((aft d).foldl wkS (K,id::r)).2.tail (f d x) x'):RunsG s aft f ok K (id::r) x x'
def wfp(y m:Nat)(G Lv:AV):Fr:=[(0,.yld y),(2,G),(4,.mp m),(5,Lv)]
def ZG7{fr:Fr}{Y G Lv:AV}{L:List Str}(hd:List AObj)(p5:AObj){tl:List AObj}(n:Nat)(e:AExit)(h0:get fr 0=Y)(h2:get fr 2=G)(h4:get fr 4=.mp hd.length)(h5:get fr 5=Lv)(hL:LVm hd.length Lv L tl)(hc:TC' tl):
 ∃tl',kp [0,2,4,5] (hd.length+(n+1)) (some (e,fr,hd++p5::tl))=some (e,[(0,Y),(2,G),(4,.mp hd.length),(5,Lv)],hd++p5::tl')/\LVm hd.length Lv L tl'/\TC' tl':=by
 have hr:Z2 [0,2,4,5] fr=[(0,Y),(2,G),(4,.mp hd.length),(5,Lv)]:=by
  show [(0,get fr 0),(2,get fr 2),(4,get fr 4),(5,get fr 5)]=_
  rw[h0,h2,h4,h5]
 have ht:(hd++p5::tl).take (hd.length+(n+1))=hd++p5::tl.take n:=by
  rw[ZY9,ZW5 (by omega),show hd.length+(n+1)-hd.length=n+1 by omega]
  rfl
 rw[Sd,hr];unfold Xq;cases c:Zd (hd.length+(n+1)) (List.map (·.2) [(0,Y),(2,G),(4,AV.mp hd.length),(5,Lv)])&&X4 (hd.length+(n+1)) ((hd++p5::tl).take (hd.length+(n+1)))with
 |false=>exact⟨tl,rfl,hL,hc⟩
 |true=>
  refine⟨tl.take n,by rw[cond_true,ht],ZHC hL ?_,λm=>ZEO<|hc m⟩
  simp only[List.map,Zd,ZVB,ZVJ]at c;exact c.1.2.2.2
def ZHH(n i o g:Nat)(a b c e:AV)(h:Hp):Xq n [(0,a),(2,b),(4,c),(5,e),(6,.ptr n i o g)] h=h:=by
 have e:Zd n ([(0,a),(2,b),(4,c),(5,e),(6,AV.ptr n i o g)].map (λ(p:Nat×AV)=>p.2))=false:=by
  have hn:Nat.blt n n=false:=by rw[ZWx];simp[ZWo]
  simp[Zd,bel,hn]
 unfold Xq;rw[e];rfl
section
variable (y:Nat) (s:Sta) (FC G p0 p3 p7:AV) (hd hd':List AObj) (K:List Str) (Lv:AV) (id:Str) (r:List Str) (tl L:List AObj) (d:Ga)
def pd(hG:GRdz hd G s FC p0 p3 p7)(hL:LVm hd.length Lv (id::r) tl)(k:Nat)(hk':s.Bc[k]?=some d)(hf:pfn rE 12 [stA s,.str id]=some (I k)):
 Zb rE c71D (wfp y hd.length G Lv++[(16,.bool true)]) (hd++kM K::tl)=some (.normal,[(0,.yld y),(2,G),(4,.mp hd.length),(5,Lv),(6,.ptr (hd.length+(tl.length+1)) 0 0 1)],hd++kM K::(tl++[.row 16 [d.enc]])):=by
 obtain⟨bl,g,off,ex,es,rfl,hb,hg1,hg2,hes⟩:=hL;have hlt:bl<tl.length:=(ZVK.1 hb).1;have hr:rowAt tl bl g=some (1,es):=by unfold rowAt;rw[hb];simp only[hg1,beq_self_eq_true,cond_true]
 have hes0:es[off]?=some (.str id):=by
  have:=congrArg List.head? hes;rw[List.head?_drop]at this;exact this
 have hg:=Z6 (f:=Ga.enc) hk';have hk:(0<=(k:Int))=True:=by simp
 have hk2:((k:Int)).toNat=k:=ZWJ k;have z0:((0:Int)).toNat=0:=rfl;have hlen:(id::r).length=r.length+1:=rfl;have hi0:iaP (hd.length+(bl+1)) g off 1 0 (r.length+1) (some (1,es))=some (.ptr (hd.length+(bl+1)) off 0 g):=VT _ _ _ _ _ _ _ ⟨Int.le_refl _,by omega⟩
 have hne:(hd.length+(tl.length+1)==hd.length+(bl+1))=false:=by rw[beq_eq_false_iff_ne];omega
 have hirr:decide (hd.length+(tl.length+1)<hd.length+(tl.length+1))=false:=by simp
 have l0:=hG.l0;obtain⟨tG1,tG2,tG3⟩:=hG.t (hd.length+(tl.length+1))<|by omega
 simp only[Zs]at tG1 tG2 tG3;simp only[stA]at hf l0;simp only[Ga.enc,NL.enc]at hg;simp only[go_sem,c71D,c71L1m,c162L1b,wfp,kM,hG.f0,hG.f3,hG.l3,l0,tG1,tG2,tG3,ZVE,ZWd,hne,hirr,Ga.enc,NL.enc,ZEw,hr,ZVU,ZVQ,ZHH,Z04,ZVL,ZVG,hf,hg,hk,hk2,z0,hi0,hes0,ZWg,if_true,ZFd,ZEp,ZW0,ZVY]
def ZHI(hd:List AObj)(p5 x y:AObj)(tl:List AObj)(b:Bool):trimB (hd.length+(tl.length+1+1)) (hd++p5::(tl++[x,y])) b=hd++p5::(tl++x::bif b then []else [y]):=by
 unfold trimB;cases b with
 |false=>rfl
 |true=>
  simp only[cond_true];rw[ZY9,ZW5 (by omega),show hd.length+(tl.length+1+1)-hd.length=tl.length+1+1 by omega,ZXt,ZY9,ZW5<|by omega]
  simp
def ZHJ(hd:List AObj)(p5 x y:AObj)(tl:List AObj)(fr:Fr):∃b:Bool,Xq (hd.length+(tl.length+1+1)) fr (hd++p5::(tl++[x,y]))=hd++p5::(tl++x::bif b then []else [y]):=by
 refine⟨Zd (hd.length+(tl.length+1+1)) (fr.map (·.2))&&X4 (hd.length+(tl.length+1+1)) ((hd++p5::(tl++[x,y])).take (hd.length+(tl.length+1+1))),?_⟩;have:=ZHI hd p5 x y tl (Zd (hd.length+(tl.length+1+1)) (fr.map (·.2))&&X4 (hd.length+(tl.length+1+1)) ((hd++p5::(tl++[x,y])).take (hd.length+(tl.length+1+1))));exact this
def ZG8(hd tl L:List AObj)(p5:AObj)(x:AV)(sz:Nat):rowAt (hd++p5::(tl++.row sz [x]::L)) (hd.length+(tl.length+1)) 1=some (sz,[x]):=by rw[ZEw,ZEP]
def py(hl:hd'.length=hd.length)(hy:U4 rE y [d.enc] (hd++kM K::(tl++[.row 16 [d.enc]]))=some (.bool true,hd'++kM K::(tl++[.row 16 [d.enc],.row 16 [d.enc]]))):
 ∃b:Bool,Zb rE c71Y [(0,.yld y),(2,G),(4,.mp hd.length),(5,Lv),(6,.ptr (hd.length+(tl.length+1)) 0 0 1)] (hd++kM K::(tl++[.row 16 [d.enc]])) =
  some (.normal,[(0,.yld y),(2,G),(4,.mp hd.length),(5,Lv),(6,.ptr (hd.length+(tl.length+1)) 0 0 1),(33,.bool false)],hd'++kM K::(tl++.row 16 [d.enc]::bif b then []else [.row 16 [d.enc]])):=by
 obtain⟨b,ht⟩:=ZHJ hd' (kM K) (.row 16 [d.enc]) (.row 16 [d.enc]) tl [(0,.yld y),(2,G),(4,.mp hd.length),(5,Lv),(6,.ptr (hd.length+(tl.length+1)) 0 0 1),(33,.bool false)];rw[hl]at ht;simp only[Ga.enc,NL.enc,kM]at hy ht;refine⟨b,?_⟩;simp only[go_sem,S3,c71Y,c71L1m,c162L1b,kM,Ga.enc,NL.enc,ZVU,ZVQ,ZWs,ZG8,hy,ZVC,ht]
def ZHK(hd:List AObj)(p5 x:AObj)(tl L:List AObj)(b:Bool):trimB (hd.length+(tl.length+(L.length+1)+1)) (hd++p5::(tl++x::L)) b=hd++p5::(tl++x::L):=ZEx<|by simp
def ZHL(hd:List AObj)(p5 x:AObj)(tl L:List AObj)(fr:Fr):Xq (hd.length+(tl.length+(L.length+1)+1)) fr (hd++p5::(tl++x::L))=hd++p5::(tl++x::L):=ZE5<|by simp
def pr(hG:GRdz hd G s FC p0 p3 p7)(v:AV)(A:List Str)(hv:ZEl hd v A)(hA:Xy rE false FC [d.enc] (hd++kM K::(tl++.row 16 [d.enc]::L))=some (v,hd++kM K::(tl++.row 16 [d.enc]::L))):
 Zb rE c71R [(0,.yld y),(2,G),(4,.mp hd.length),(5,Lv),(6,.ptr (hd.length+(tl.length+1)) 0 0 1),(33,.bool false)] (hd++kM K::(tl++.row 16 [d.enc]::L)) =
  some (.normal,[(0,.yld y),(2,G),(4,.mp hd.length),(5,Lv),(37,v),(38,I A.length),(39,I 0)],hd++kM K::(tl++.row 16 [d.enc]::L)):=by
 have hln:=hv.1;simp only[Ga.enc,NL.enc,kM]at hA;simp only[go_sem,c71R,c71Z,c71L1m,c162L1b,kM,hG.f7,hG.l7,Ga.enc,NL.enc,ZW0,ZWb,ZVU,ZVQ,ZG8,hA,hln,ZHK,ZHL,ZVA]
def pA(hL:LVm hd.length Lv (id::r) tl):
 Zb rE c71A (wfp y hd.length G Lv) (hd++kM K::tl)=some (.normal,wfp y hd.length G Lv++[(16,.bool true)],hd++kM K::tl):=by
 obtain⟨bl,g,off,ex,es,rfl,hb,hg1,hg2,hes⟩:=hL;have hr:rowAt tl bl g=some (1,es):=by unfold rowAt;rw[hb];simp only[hg1,beq_self_eq_true,cond_true]
 have hlen:(id::r).length=r.length+1:=rfl;simp only[go_sem,c71A,c162L1b,wfp,kM,hlen,ZEw,hr,ZVU,ZVQ,ZFT,ZEI,ZEJ,ZW0,ZWb]
def pE(hL:LVm hd.length Lv [] tl):
 Zb rE c71A (wfp y hd.length G Lv) (hd++kM K::tl)=some (.exit 0,wfp y hd.length G Lv++[(16,.bool false)],hd++kM K::tl):=by
 obtain⟨bl,g,off,ex,es,rfl,hb,hg1,hg2,hes⟩:=hL;have hr:rowAt tl bl g=some (1,es):=by unfold rowAt;rw[hb];simp only[hg1,beq_self_eq_true,cond_true]
 have hlen:([]:List Str).length=0:=rfl;have h0:decide (((0:Nat):Int)>0)=false:=rfl;simp only[go_sem,c71A,c162L1b,wfp,kM,hlen,ZEw,hr,ZVU,ZVQ,h0,ZEI,ZEJ,ZW0,ZWb]
def pC(hL:LVm hd.length Lv (id::r) tl):
 ∃fr Lv',Zb rE c71C (wfp y hd.length G Lv) (hd++kM K::tl)=some (.normal,fr,hd++kM K::tl)/\get fr 0=.yld y/\get fr 2=G/\get fr 4=.mp hd.length/\get fr 5=Lv'/\LVm hd.length Lv' r tl:=by
 obtain⟨bl,g,off,ex,es,rfl,hb,hg1,hg2,hes⟩:=hL;have hlen:(id::r).length=r.length+1:=rfl;have hr:rowAt tl bl g=some (1,es):=by unfold rowAt;rw[hb];simp only[hg1,beq_self_eq_true,cond_true]
 refine⟨[(5,.sl (hd.length+(bl+1)) g (off+1) r.length ex),(18,.sl (hd.length+(bl+1)) g (off+1) r.length ex),(17,.sl (hd.length+(bl+1)) g off (r.length+1) ex)]++wfp y hd.length G (.sl (hd.length+(bl+1)) g off (r.length+1) ex),.sl (hd.length+(bl+1)) g (off+1) r.length ex,?_,rfl,rfl,rfl,rfl,?_⟩
 .have hs:=ZFV (h:=hd++.map (K.map encS) (ZO K.length)::tl) (b:=hd.length+(bl+1)) (off:=off) (n:=r.length) (ex:=ex) (by rw[ZEw];exact hr)
  simp only[go_sem,c71C,c162L1b,wfp,kM,hlen,ZFU,hs,ZW0,ZWb]
 .refine⟨bl,g,off+1,ex,es,rfl,hb,hg1,by simp at hg2;omega,?_⟩
  have:=congrArg List.tail hes
  rwa[List.tail_drop]at this
def ZHM(hG:GRdz hd G s FC p0 p3 p7)(hG':GRdz hd' G s FC p0 p3 p7)(hl:hd'.length=hd.length)(hL:LVm hd.length Lv (id::r) tl)(hc:TC' tl)(k:Nat)(hk:s.Bc[k]?=some d)(hf:pfn rE 12 [stA s,.str id]=some (I k))(A:List Str)(h3:(id::r).length+A.length<=1000000)
 (hy:U4 rE y [d.enc] (hd++kM K::(tl++[.row 16 [d.enc]]))=some (.bool true,hd'++kM K::(tl++[.row 16 [d.enc],.row 16 [d.enc]])))
 (hA:∀L,∃v,Xy rE false FC [d.enc] (hd'++kM K::(tl++.row 16 [d.enc]::L))=some (v,hd'++kM K::(tl++.row 16 [d.enc]::L))/\ZEl hd' v A):
 ∃Lv' tl',Zb rE c162L1b (wfp y hd.length G Lv) (hd++kM K::tl)=some (.normal,wfp y hd.length G Lv',hd'++kM (A.foldl wkS (K,id::r)).1::tl')/\
  LVm hd.length Lv' (A.foldl wkS (K,id::r)).2.tail tl'/\TC' tl':=by
 obtain⟨b,hy'⟩:=py y G hd hd' K Lv tl d hl hy;have hT:TC' (tl++.row 16 [d.enc]::bif b then []else [.row 16 [d.enc]]):=λn=>by
  have e:Zj n (.row 16 [d.enc])=true:=by simp only[Zj,Zd,Ga.enc,NL.enc,bel,ZEv,ZVJ,ZVD,ZWd]
  rw[ZEu,hc n];cases b<;>simp only[cond_true,cond_false,X4,e,ZVJ,ZVD,ZWd]
 generalize(bif b then []else [AObj.row 16 [d.enc]])=X at hy' hT;obtain⟨v,hA,hv⟩:=hA X;have hin:=ZHG hd' (.yld y) (G) v A hv (K,id::r) Lv (tl++.row 16 [d.enc]::X) (by rw[hl];exact ZHB hL _) hT h3
 have hr:=pr y s FC G p0 p3 p7 hd' K Lv tl X d hG' v A hv hA;have kq:=λ{fr:Fr}{Y G Lv:AV}{L:List Str}=>ZG7 (fr:=fr) (Y:=Y) (G:=G) (Lv:=Lv) (L:=L) hd'
 have cq:=λ(K:List Str)(Lv:AV)(id:Str)(r:List Str)(tl:List AObj)=>pC y G hd' K Lv id r tl
 rw[hl]at hin hr;simp only[hl]at kq cq;obtain⟨fr',Lv0,tl0,hin,z1,z2,z3,z4,z5,z6⟩:=hin;obtain⟨tl1,hk1,l1,c1⟩:=kq (kM (A.foldl wkS (K,id::r)).1) (tl++.row 16 [d.enc]::X).length .normal z3 z4 z5 z6 z1 z2;have hlen1:(hd'++kM K::(tl++.row 16 [d.enc]::X)).length=hd.length+((tl++.row 16 [d.enc]::X).length+1):=by rw[ZEH,hl]
 have e1:Zb rE c71L1m (wfp y hd.length G Lv++[(16,.bool true)]) (hd++kM K::tl)=some (.normal,wfp y hd.length G Lv0,hd'++kM (A.foldl wkS (K,id::r)).1::tl1):=by
  show Zb rE (.seq c71D<|.seq c71Y<|.seq c71R<|.keep [0,2,4,5]<|.block 2 c162L0) _ _=_
  rw[SK,pd y s FC G p0 p3 p7 hd K Lv id r tl d hG hL k hk hf,SH,SK,hy',SH,SK,hr,SH,Sm,Sl];show kp _ _ (blk 2<|Zg rE [0,2,4,5,37,38,39] c162L0b _ _)=_
  rw[hin,hlen1];exact hk1
 obtain⟨r',hne⟩:=ZEQ A K (id::r) id r rfl;generalize A.foldl wkS (K,id::r)=q at hne e1 l1⊢;obtain⟨K',L'⟩:=q;have hne:L'=id::r':=hne;subst hne;have l1:LVm hd.length Lv0 (id::r') tl1:=l1;obtain⟨tl2,e2,l2,c2⟩:=kq (Y:=.yld y) (G:=G) (Lv:=Lv0) (fr:=wfp y hd.length G Lv0) (kM K') tl.length .normal rfl rfl rfl rfl l1 c1;obtain⟨fr3,Lv3,e3,g0,g2,g4,g5,l3⟩:=cq K' Lv0 id r' tl2 l2;obtain⟨tl4,e4,l4,c5004⟩:=kq (Y:=.yld y) (G:=G) (Lv:=Lv3) (fr:=fr3) (kM K') tl2.length .normal g0 g2 g4 g5 l3 c2;obtain⟨tl5,e5,l5,c5005⟩:=kq (Y:=.yld y) (G:=G) (Lv:=Lv3) (fr:=wfp y hd.length G Lv3) (kM K') tl.length .normal rfl rfl rfl rfl l4 c5004;refine⟨Lv3,tl5,?_,l5,c5005⟩;show Zb rE (.keep [0,2,4,5]<|.seq c71A<|.seq (.keep [0,2,4,5]<|.block 1 c71L1m)<|.keep [0,2,4,5] c71C) _ _=_
 rw[Sm,SK,pA y G hd K Lv id r tl hL,SH,SK,Sm,Sl,e1];show kp _ _ (sq rE _<|kp _ _<|some (.normal,wfp y hd.length G Lv0,_))=_
 rw[ZEH,e2,SH,Sm];rw[show Zb rE c71C [(0,.yld y),(2,G),(4,.mp hd.length),(5,Lv0)] (hd'++kM K'::tl2)=_ from e3,ZEH,hl,e4]
 exact e5
end
def ZHN{σ:Type}{s:Sta}{aft:Ga->List Str}{f:Ga->σ->σ}{ok:σ->Prop}(FC G p0 p3 p7:AV)(y m:Nat)(H:σ->List AObj)(hG:∀x,GRdz (H x) G s FC p0 p3 p7)(hH:∀x,(H x).length=m)
 (hy:∀(d:Ga)(x:σ)(K:List Str)(tl:List AObj),d∈s.Bc->ok x->U4 rE y [d.enc] (H x++kM K::(tl++[.row 16 [d.enc]]))=some (.bool true,H (f d x)++kM K::(tl++[.row 16 [d.enc],.row 16 [d.enc]])))
 (hA:∀(d:Ga)(x:σ)(K:List Str)(tl:List AObj),d∈s.Bc->∃v,Xy rE false FC [d.enc] (H x++kM K::tl)=some (v,H x++kM K::tl)/\ZEl (H x) v (aft d))
 {K L:List Str} {x x':σ} (R:RunsG s aft f ok K L x x'):∀(Lv:AV)(tl:List AObj),LVm m Lv L tl->TC' tl->
 ∃K' Lv' tl',Zg rE [0,2,4,5] c162L1b (wfp y m G Lv) (H x++kM K::tl)=some (.exit 0,wfp y m G Lv',H x'++kM K'::tl'):=by
 induction R with
 |stop K x=>
  intro Lv tl hL hc;have hm:=hH x;subst hm;obtain⟨tl2,e2,l2,c2⟩:=ZG7 (Y:=.yld y) (G:=G) (Lv:=Lv) (fr:=wfp y (H x).length G Lv++[(16,.bool false)]) (H x) (kM K) tl.length (.exit 0) rfl rfl rfl rfl hL hc;refine⟨K,Lv,tl2,Q7 rfl ?_ (λh=>by cases h)⟩
  show Zb rE (.keep [0,2,4,5]<|.seq c71A<|.seq (.keep [0,2,4,5]<|.block 1 c71L1m)<|.keep [0,2,4,5] c71C) _ _=_
  rw[Sm,SK,pE y G (H x) K Lv tl hL,SI,ZEH];exact e2
 |step K id r x x' k d hd hf hx h3 h ih=>
  intro Lv tl hL hc;have hm:=ZVN hd;have hl:(H<|f d x).length=(H x).length:=by rw[hH,hH]
  have hm':=hH x;obtain⟨Lv1,tl1,e1,l1,c1⟩:=ZHM y s FC G p0 p3 p7 (H x) (H<|f d x) K Lv id r tl d (hG x) (hG<|f d x) hl (by rw[hm'];exact hL) hc k hd hf (aft d) h3 (hy d x K tl hm hx)<|λL=>hA d (f d x) K _ hm
  rw[hm']at e1 l1;obtain⟨K',Lv',tl',e⟩:=ih Lv1 tl1 l1 c1;refine⟨K',Lv',tl',?_⟩;rw[Yt rfl e1];exact e
end Go.AM
namespace Go.AM
open Go
variable [REdz]
def ZGf(hd Z:List AObj)(n:Nat)(fr:Fr)(hn:hd.length<=n):∃tl,Xq n fr (hd++Z)=hd++tl:=by
 unfold Xq;cases Zd n (fr.map (·.2))&&X4 n ((hd++Z).take n)with
 |false=>exact⟨Z,rfl⟩
 |true=>exact⟨Z.take<|n-hd.length,by rw[cond_true,ZY9,ZW5 hn]⟩
def ZI8{σ:Type}{s:Sta}{aft:Ga->List Str}{f:Ga->σ->σ}{ok:σ->Prop}(FC G p0 p3 p7:AV)(y m:Nat)(H:σ->List AObj)(hG:∀x,GRdz (H x) G s FC p0 p3 p7)(hH:∀x,(H x).length=m)
 (hy:∀(d:Ga)(x:σ)(K:List Str)(tl:List AObj),d∈s.Bc->ok x->U4 rE y [d.enc] (H x++kM K::(tl++[.row 16 [d.enc]]))=some (.bool true,H (f d x)++kM K::(tl++[.row 16 [d.enc],.row 16 [d.enc]])))
 (hA:∀(d:Ga)(x:σ)(K:List Str)(tl:List AObj),d∈s.Bc->∃v,Xy rE false FC [d.enc] (H x++kM K::tl)=some (v,H x++kM K::tl)/\ZEl (H x) v (aft d))
 (id:Str) {x x':σ} (R:RunsG s aft f ok [id] [id] x x'):
 ∃fr tl,Zb rE c162 (QP 0<|[]++[.yld y]++[.iptr false [.str id],G]) (H x)=some (.normal,fr,H x'++tl):=by
 obtain⟨K',Lv',tl',hl⟩:=ZHN FC G p0 p3 p7 y m H hG hH hy hA R (.sl (m+(0+1)) 1 0 1 true) [.row 1 [.str id]] ⟨0,1,0,true,[.str id],rfl,rfl,rfl,rfl,rfl⟩<|λn=>rfl
 have hm:=hH x;have hm':=hH x';have hp:=Ur (enc:=encS) (eq:=Z3) Z1Y [] id (h:=H x++[.map [] []]) (b:=(H x).length)<|ZEG _ _ _;have hk:Qi Z3 [] id=[id]:=rfl;rw[hk]at hp;have hrep:List.replicate 1 (AV.bool true)=[.bool true]:=rfl;have hrep0:List.replicate 0 (AV.bool true)=[]:=rfl;rw[ZEV]at hp;simp only[encS,List.map,ZO,ZVU,ZWs,ZVM,hrep,hrep0]at hp;simp only[wfp,kM,encS,List.map,ZO,ZVU,ZWs,ZVM,hrep]at hl;subst hm;have f1:∀a b c h,Xq (H x).length [(0,a),(1,b),(2,c),(4,.mp (H x).length)] h=h:=λa b c h=>by
  have hn:Nat.blt (H x).length (H x).length=false:=by rw[ZWx];simp[ZWo]
  have e:Zd (H x).length ([(0,a),(1,b),(2,c),(4,AV.mp (H x).length)].map (λ(p:Nat×AV)=>p.2))=false:=by simp[Zd,bel,hn]
  unfold Xq;rw[e];rfl
 have f2:∀n a b c g o k ex h,Xq n [(0,a),(2,b),(4,c),(5,.sl n g o k ex)] h=h:=λn a b c g o k ex h=>by
  have hn:Nat.blt n n=false:=by rw[ZWx];simp[ZWo]
  have e:Zd n ([(0,a),(2,b),(4,c),(5,AV.sl n g o k ex)].map (λ(p:Nat×AV)=>p.2))=false:=by simp[Zd,bel,hn]
  unfold Xq;rw[e];rfl
 have l1:∀o:AObj,(H x++[o]).length=(H x).length+1:=λo=>by simp
 have l2:∀o p:AObj,(H x++[o]++[p]).length=(H x).length+2:=λo p=>by simp
 have l3:H x++[AObj.map [.str id] [.bool true]]++[.row 1 [.str id]]=H x++[AObj.map [.str id] [.bool true],.row 1 [.str id]]:=by simp
 have hl:Zg rE [0,2,4,5] c162L1b _ (H x++[AObj.map [.str id] [.bool true],.row 1 [.str id]])=_:=hl;simp only[go_sem,c162,c162L1,hp,f1,f2,l1,l2,l3,hl];obtain⟨tl,ht⟩:=ZGf (H x') (AObj.map (K'.map encS) (List.replicate K'.length<|.bool true)::tl') ((H x).length+2) []<|by omega
 exact⟨[],tl,by rw[ht]⟩
def ZL5{s:Sta}{K L:List Str}{D E D' E':List AV}(H:Runs s K L D E D' E'):RunsG s (λd=>d.After.l) (λd(q:List AV×List AV)=>(faD d q.1,faE d q.2)) (λq=>q.1.length<=1000/\q.2.length<=1000) K L (D,E) (D',E'):=by
 induction H with
 |stop K D E=>exact RunsG.stop _ _
 |step K id r D E D' E' k d hd hf h1 h2 h3 h ih=>exact RunsG.step K id r _ _ k d hd hf ⟨h1,h2⟩ (by omega) ih
def ZHd(s:Sta)(t:AV)(id:Str)(D' E':List AV)(H:Runs s [id] [id] [] [] D' E'):
 ∃fr tl,Zb rE c162 (QP 0<|[]++[.yld 4]++[.iptr false [.str id],grA s]) (h5 t [] [])=some (.normal,fr,h5 t D' E'++tl):=
 ZI8 (AV.clo (.func 77) [] []) (grA s) (.iptr false<|(stA s).cells++[AV.clo (.func 77) [] []]) (.iptr false<|((stA s).cells++[AV.clo (.func 77) [] []]).drop 3) (.iptr false [AV.clo (.func 77) [] []]) 4 5 (λq:List AV×List AV=>h5 t q.1 q.2)
  (λq=>⟨λ_ _=>rfl,λ_ _=>rfl,λ_ _=>rfl,λ_ _=>rfl,λ_ _=>rfl,λ_ _=>rfl,λ_ _=>⟨rfl,rfl,rfl⟩⟩) (λq=>rfl)
  (λd q K tl _ hq=>by
   have h:=ZGU t d q.1 q.2 (kM K::(tl++[.row 16 [d.enc]])) hq.1 hq.2;rw[ZW0,ZVY]at h;exact h)
  (λd q K tl _=>⟨d.After.enc 1 encS,by
   have h:=ZGY d<|h5 t q.1 q.2++kM K::tl;rw[RL];exact h,ZHE _ _ _⟩) id (ZL5 H)
def wkT(s:Sta)(id:Str):AV:=.clo (.func 162) [] [.iptr false [.str id],grA s]
def h4(D E:List AV):List AObj:=[.row 2 [.agg [.isl false false 1 [],.isl false false 3 []]],.row 1 D,.row 3 E,.row 2 [.agg [.sl 1 D.length 0 D.length false,.sl 2 E.length 0 E.length false]]]
def ZHe(s:Sta)(id:Str)(D E:List AV)(H:Runs s [id] [id] [] [] D E):
 ∃tl,rf rE (wkT s id) [20] c19R0a c19R0b (ffr<|wkT s id) (h4 [] [])=some (.normal,ffr<|wkT s id,h4 D E++tl):=by
 obtain⟨fr,tl,h⟩:=ZHd s (wkT s id) id D E H;refine⟨.loop .exhausted .normal (ffr<|wkT s id) [20] c19R0a c19R0b::tl,?_⟩;unfold wkT;rw[Z1k (c:=c162) (rs:=[]) rfl];have h':Zb rE c162 (QP 0<|[]++[.yld (h4 [] []).length]++[.iptr false [.str id],grA s]) (h4 [] []++[.loop .ready .normal (ffr<|wkT s id) [20] c19R0a c19R0b])=_:=h;unfold wkT at h';rw[h'];rfl
def grC(s:Sta):List AV:=[.isl false false 6<|s.Fa.map Gk.enc,.isl false false 5<|s.Gm.map By.enc,.isl false false 4<|s.Bt.map Ev.enc,.isl false false 16<|s.Bc.map Ga.enc,.isl false false 6<|s.Nk.map be.enc,.isl false false 2<|s.Gc.map bf.enc,.isl false false 2<|s.ba.map bf.enc]
def ZHf(s:Sta)(id:Str)(h:Hp):fnV rE 78 [.agg<|grC s++[.clo (.func 77) [] []],.str id] h=some (.clo (.func 162) [] [.iptr false [.str id],.iptr false<|grC s++[.clo (.func 77) [] []]],h):=by
 rw[Q6 (f:=78) rfl rfl];unfold grC;simp only[go_sem,c78,ZW0,ZWb,ZE5 (h:=h) rfl]
def ZHg(p0 p1 p2 p3:AObj)(tl:List AObj)(b:Bool):trimB 4 (p0::p1::p2::p3::tl) b=p0::p1::p2::p3::bif b then []else tl:=by cases b<;>rfl
def ZHh{D D2:List AV}(hD:ZE7 80 [ZEa 80] 1 D=some D2)(p0 p2 p3:AObj)(tl:List AObj):
 rsD (rE.rs 79) (p0::.row 1 D::p2::p3::tl) [.sl 1 D.length 0 D.length false,.clo (.func 80) [] []]=some (.sl 1 D.length 0 D.length false,⟨false,[1],some 1,none⟩,some (1,.row 1 D2)):=by
 show ZEn (ZE7 80) _ _=_
 unfold ZEn ZE8;simp only[ZWm,ZW4,beq_self_eq_true,ZWd,cond_true];have hD':ZE7 80 [.clo (.func 80) [] []] 1 D=some D2:=hD;rw[hD'];rfl
def ZHi{E E2:List AV}(hE:ZEe 82 3 ZEf [ZEa 82] 3 E=some E2)(p0 p1 p3:AObj)(tl:List AObj):
 fnV rE 81 [.sl 2 E.length 0 E.length false,.clo (.func 82) [] []] (p0::p1::.row 3 E::p3::tl)=some (.sl 2 E.length 0 E.length false,p0::p1::.row 3 E2::p3::tl):=by
 rw[V8 (s:=ZEo<|ZEe 82 3 ZEf) rfl];unfold ZEo ZE8;simp only[ZWm,ZW4,beq_self_eq_true,ZWd,cond_true];have hE':ZEe 82 3 ZEf [.clo (.func 82) [] []] 3 E=some E2:=hE;rw[hE'];rfl
def ZHk{α:Type}{recs:List DRec}{p0 p1 o:AObj}{tl:List AObj}{d:DRec}{k:Option α}:okd recs [] (p0::p1::tl) d (some (1,o)) k=k:=Z9E rfl (ZWT (show 1<=(p0::p1::tl).length by simp))
def ZHl(p0 p1 p2 p3:AObj)(tl:List AObj)(b:Bool):trimB (tl.length+1+1+1+1) (p0::p1::p2::p3::tl) b=p0::p1::p2::p3::tl:=ZEx<|by simp
def ZFW(s:Sta)(id:Str)(D E D2 E2:List AV)(hc:pfn rE 76 [stA s,.str id]=some (I 0))(H:Runs s [id] [id] [] [] D E)(hD:ZE7 80 [ZEa 80] 1 D=some D2)(hE:ZEe 82 3 ZEf [ZEa 82] 3 E=some E2)(hDl:D2.length=D.length)(hEl:E2.length=E.length)(hDc:Z4 D2=true)(hEc:Z4 E2=true):
 pfn rE 19 [stA s,.str id]=some (.tup [.agg [.isl false false 1 D2,.isl false false 3 E2],I 0]):=by
 obtain⟨tl,hr⟩:=ZHe s id D E H;simp only[stA]at hc;simp only[wkT,grA,ffr,stA,h4,AV.cells,ZW0,ZWb,ZWs]at hr;have hw:=ZHf s id;simp only[grC,ZW0,ZWb]at hw;have b1:(D2.length==D.length)=true:=by rw[hDl];exact beq_self_eq_true _
 have b2:(E2.length==E.length)=true:=by rw[hEl];exact beq_self_eq_true _
 have t1:D2.take D.length=D2:=by rw[<-hDl];exact ZWj
 have t2:E2.take E.length=E2:=by rw[<-hEl];exact ZWj
 have f1:∀h n,ZC false h (n+1) D2=some D2:=λh n=>by simp only[ZC,hDc,cond_true]
 have f2:∀h n,ZC false h (n+1) E2=some E2:=λh n=>by simp only[ZC,hEc,cond_true]
 have f1:=λh=>f1 h 34
 have f2:=λh=>f2 h 33
 simp only[Nat.reduceAdd]at f1 f2;have h00:((0:Int) != 0)=false:=rfl;rw[Z5 (f:=19) rfl rfl];simp only[go_sem,c19,stA,hc,h00,hw,put,Sr,hr,ZHg,ZL4,ZHj,ZHk,ZHl,ZH,ZHh hD,ZHi hE,b1,b2,t1,t2,f1,f2]
structure Prop'(s:Sta):Prop where
 rg:∀x∈s.Fa,Vo x=true
 st:∀x∈s.Gm,Vp x=true
 bu:∀x∈s.Bt,Vq x=true
 dr:∀(i:Nat)d,s.Bc[i]?=some d->Vr s i d=true
 un:∀x∈s.Nk,Vs s x=true
 ids:(Qp s).Nodup
 pa:WK s=true
def Zda{α:Type}{P:Nat->α->Bool}:∀{l:List α}{i:Nat},Zu P i l=true↔∀(j:Nat)x,l[j]?=some x->P (i+j) x=true
 |[],i=>⟨λ_ j x h=>(by simp at h),λ_=>rfl⟩
 |y::r,i=>by
  unfold Zu;rw[ZVB,Zda (l:=r)];constructor
  .rintro⟨h1,h2⟩ j x hx;cases j with
   |zero=>cases hx;exact h1
   |succ j=>have:=h2 j x hx;rw[show i+(j+1)=i+1+j by omega];exact this
  .intro h;exact⟨h 0 y rfl,λj x hx=>by have:=h (j+1) x hx;rw[show i+1+j=i+(j+1)by omega];exact this⟩
def Zdb(s:Sta):Jx s=true↔Prop' s/\Wh s.Bc=true:=by
 unfold Jx;simp only[ZVB];constructor
 .rintro⟨h1,h2,h3,h4,h5,h6,h7,h8⟩;exact⟨⟨ZVT.1 h1,ZVT.1 h2,ZVT.1 h3,λi d hd=>by have:=Zda.1 h4 i d hd;rwa[ZVM]at this,ZVT.1 h5,(Zdk _).1 h6,h8⟩,h7⟩
 .rintro⟨⟨h1,h2,h3,h4,h5,h6,h8⟩,h7⟩;exact⟨ZVT.2 h1,ZVT.2 h2,ZVT.2 h3,Zda.2 (λi d hd=>by rw[ZVM];exact h4 i d hd),ZVT.2 h5,(Zdk _).2 h6,h7,h8⟩
def look{α:Type}(f:α->Str)(l:List α)(id:Str):Int:=Zp (λx=>Z3 (f x) id) l 0
def ZcU{α:Type}{f:α->Str}{l:List α}{id:Str}(h:decide (look f l id<0)=false):∃(j:Nat)(x:α),look f l id=(j:Int)/\l[j]?=some x/\f x=id:=by
 unfold look at h⊢;rcases UA (λx=>Z3 (f x) id) l 0 with⟨h1,_⟩|⟨j,x,h1,h2,h3⟩
 .rw[h1]at h;cases h
 .exact⟨j,x,by omega,h2,by have:=ZXQ h3;exact(Ky _ _).1 this⟩
def Ze8{α:Type}{f:α->Str}{l:List α}{x:α}(h:x∈l):decide (look f l (f x)<0)=false:=by
 unfold look;rcases UA (λy=>Z3 (f y)<|f x) l 0 with⟨_,h2⟩|⟨j,y,h1,_,_⟩
 .exfalso;have:=List.find?_eq_none.1 h2 x h;exact this<|(Ky _ _).2 rfl
 .exact decide_eq_false<|by omega
def Zi1{α:Type}{f:α->Str}{l:List α}{j:Nat}{x:α}(hn:(l.map f).Nodup)(h:l[j]?=some x):look f l (f x)=(j:Int):=by
 obtain⟨k,y,h1,h2,h3⟩:=ZcU<|Ze8 (f:=f)<|ZVN h;have hk:(l.map f)[k]?=some (f x):=by rw[ZWw,h2,ZVZ,h3]
 have hj:(l.map f)[j]?=some (f x):=by rw[ZWw,h,ZVZ]
 have hkl:=(ZVK.1 hk).1;have:k=j:=(ZYj hkl hn).1 (hk.trans hj.symm);rw[h1,this]
def ZEz(s:Sta)(id:Str):Zn s id=look (λx:Ga=>x.Id) s.Bc id:=rfl
def Zd0(s:Sta)(i:Nat)(d:Ga):Vr s i d=true↔QM d.bh d.Ld d.From=true/\(∀id∈d.After.l,decide (Zn s id<=i)=false)/\UC d=false/\(Z3 d.Veil emp=true->NO s d=false/\Q9 {Hf d with bq:=6}=true)/\(Z3 d.Veil emp=false->NN d=true):=by
 unfold Vr Hg K8;rw[ZVB,ZVB,ZVB,ZVT,ZVW];simp only[ZVW];cases Z3 d.Veil emp with
 |true=>rw[cond_true,ZVB,ZVW];simp
 |false=>rw[cond_false];simp
def Zdl(s:Sta)(x:be):Vs s x=true↔decide (Zn s x.Ga<0)=false/\QM 0 x.Ld x.From=true/\Q9 {Vn x with bq:=7}=true/\(x.Ld=-1->x.Why=0/\QN s (Zn s x.Ga)=-1)/\(x.Ld≠-1->x.Why=12\/x.Why=11):=by
 unfold Vs Jw;rw[ZVB,ZVB,ZVB,ZVW,ZVW];refine and_congr_right λ_=>and_congr_right λ_=>and_congr_right λ_=>?_
 rw[ZXc];cases he:x.Ld==-1 with
 |true=>
  have h:x.Ld=-1:=by simpa using he
  have h2:(x.Ld != -1)=false:=by simpa using he
  rw[h2];simp[h]
 |false=>
  have h:x.Ld≠-1:=by simpa using he
  have h2:(x.Ld != -1)=true:=by simpa using he
  rw[h2];simp[h];by_cases hw:x.Why=12
  .simp[hw]
  .simp[hw]
structure Endz where
 Id:Str
 bq:Int
 Day:Int
def Endz.enc(e:Endz):AV:=.agg [.str e.Id,I e.bq,I e.Day]
def ZEb(s:Sta)(id:Str):Int:=bif Jx s then(bif decide (Zn s id<0)then 10 else 0)else 1
def Zpq(s:Sta)(hs:StE s)(id:Str):pfn rE 76 [stA s,.str id]=some (I<|ZEb s id):=by
 have h1:=Z3i s hs;have h2:=find_ok s hs.sizes id;rw[Z5 (f:=76) rfl rfl];unfold ZEb;cases c:Jx s with
 |false=>rw[c]at h1;simp only[go_sem,c76,h1,ZVE]
 |true=>
  rw[c]at h1;cases c2:decide (Zn s id<0)with
  |true=>simp only[go_sem,c76,h1,h2,c2,ZVC]
  |false=>simp only[go_sem,c76,h1,h2,c2,ZVC]
def ltE(x:Endz)(y:Endz):Bool:=WW y.Id x.Id
def ZO8(x:Endz)(l:List Endz):List Endz:=l.takeWhile (ltE x)++x::l.dropWhile (ltE x)
def ZRu{α:Type}(p:α->Bool):∀(l:List α),l.take (l.takeWhile p).length=l.takeWhile p/\l.drop (l.takeWhile p).length=l.dropWhile p/\(l.takeWhile p).length<=l.length
 |[]=>by simp
 |a::r=>by
  obtain⟨h1,h2,h3⟩:=ZRu p r;rw[ZYa,List.dropWhile_cons];cases p a with
  |true=>simp[h1,h2,h3]
  |false=>simp
def ZRv{α:Type}(p:α->Bool):∀(l:List α)(i:Nat)(x:α),l[i]?=some x->i<(l.takeWhile p).length->p x=true
 |[],i,x,h,_=>by simp at h
 |a::r,i,x,h,hi=>by
  rw[ZYa]at hi;cases hp:p a with
  |false=>rw[hp]at hi;simp at hi
  |true=>
   rw[hp]at hi;cases i with
   |zero=>simp at h;subst h;exact hp
   |succ i=>simp at h hi;exact ZRv p r i x h hi
def ZRw{α:Type}(p:α->Bool):∀(l:List α)(x:α),l[(l.takeWhile p).length]?=some x->p x=false
 |[],x,h=>by simp at h
 |a::r,x,h=>by
  rw[ZYa]at h;cases hp:p a with
  |false=>rw[hp]at h;simp at h;subst h;exact hp
  |true=>rw[hp]at h;simp at h;exact ZRw p r x h
def ZRx(ex:Bool)(l:List Endz)(x:Endz)(hl:l.length<=100000):pfn rE 85 [.isl false ex 3<|l.map Endz.enc,x.enc]=some (.isl false false 3<|(ZO8 x l).map Endz.enc):=by
 have hbS:∀n(K:List Endz),Zd n (K.map Endz.enc)=true:=λn K=>ZN _<|Zw (λt=>rfl) K
 have hct:∀K:List Endz,Z4 (K.map Endz.enc)=true:=λK=>Zw (λt=>rfl) K
 have htk:∀(K:List Endz)(n:Nat),K.length=n->List.take n (K.map Endz.enc)=K.map Endz.enc:=λK n h=>ZW5<|by simp[h]
 obtain⟨t1,t2,t3⟩:=ZRu (ltE x) l;have ha:∀(K:List Endz)(z:Endz),K.length<=1000000->appW [.row 3<|K.map Endz.enc] false 3 32 (.sl 0 K.length 0 K.length false) (.isl false false 3 [.agg [.str z.Id,I z.bq,I z.Day]])=some (.sl 0 (K.length+1) 0 (K.length+1) false,[.row 3<|(K++[z]).map Endz.enc]):=λK z hK=>by
  have h:=XC (h:=[.row 3<|K.map Endz.enc]) (fz:=false) (b:=0) (g:=K.length) (sz:=3) (es:=K.map Endz.enc) (bw:=false) (ex:=false) (ys:=[.agg [.str z.Id,I z.bq,I z.Day]]) (bytes:=32) (by simp[rowAt]) rfl (by rfl) (by omega) (by omega) (by simp;omega)
  rw[h,ZW7];rfl
 have L:=Y8 (E:=rE) (live:=[0,3,5,6]) (b:=c85L0b) (l.takeWhile<|ltE x).length (λi=>[(0,.isl false ex 3<|l.map Endz.enc),(3,.iptr false [.str x.Id,I x.bq,I x.Day]),(5,.sl 0 i 0 i false),(6,I i)])
  (λi=>[.row 3<|(l.take i).map Endz.enc]) (λi=>rfl)
  (λi hi=>by
   obtain⟨y,hy⟩:∃y,l[i]?=some y:=⟨_,ZVH<|by omega⟩
   have hg:=Z6 (f:=Endz.enc) hy;have hi':=Zh<|Z7 hy;have hw:=Zx (n:=i)<|by omega
   have hp:WW y.Id x.Id=true:=ZRv (ltE x) l i y hy hi;have hlen:=take_len hy;have h1:=ha (l.take i) y<|by omega
   rw[hlen]at h1;have e:l.take i++[y]=l.take (i+1):=by rw[ZXM,hy];rfl
   rw[e]at h1;refine⟨_,by simp only[go_sem,c85L0b,hg,hi',hw,Endz.enc,hp,h1,hbS,ZVA];rfl,?_⟩
   simp only[go_sem])
  (e:=.exit 0) (fr:=[(0,.isl false ex 3<|l.map Endz.enc),(3,.iptr false [.str x.Id,I x.bq,I x.Day]),(5,.sl 0 (l.takeWhile<|ltE x).length 0 (l.takeWhile<|ltE x).length false),(6,I (l.takeWhile<|ltE x).length)]) (h:=[.row 3<|(l.takeWhile<|ltE x).map Endz.enc]) (by
   rw[t1];by_cases hk:(l.takeWhile<|ltE x).length<l.length
   .obtain⟨y,hy⟩:∃y,l[(l.takeWhile<|ltE x).length]?=some y:=⟨_,ZVH hk⟩;have hg:=Z6 (f:=Endz.enc) hy;have hi':=Zh hk;have hp:WW y.Id x.Id=false:=ZRw (ltE x) l y hy;simp only[go_sem,c85L0b,hg,hi',Endz.enc,hp,hbS,ZVA]
   .have hi':decide (((l.takeWhile<|ltE x).length:Int)<(l.length:Int))=false:=decide_eq_false (by omega)
    simp only[go_sem,c85L0b,hi',hbS,ZVA]) (by simp)
 have L':Zg rE [0,3,5,6] c85L0b [(0,.isl false ex 3<|l.map Endz.enc),(3,.iptr false [.str x.Id,I x.bq,I x.Day]),(5,.sl 0 0 0 0 false),(6,.int .i64 0)] [.row 3 []]=_:=L;have h1:=ha (l.takeWhile<|ltE x) x<|by omega
 have e5:List.take (l.length-(l.takeWhile<|ltE x).length) (List.drop (l.takeWhile<|ltE x).length<|l.map Endz.enc)=(l.dropWhile<|ltE x).map Endz.enc:=by
  rw[<-List.map_drop,t2];apply ZW5;rw[ZVA,<-t2,ZXv];omega
 have e6:(l.takeWhile<|ltE x).length+(l.dropWhile<|ltE x).length=l.length:=by rw[<-ZVQ,ZYr]
 have e7:(l.takeWhile (ltE x)++[x]).length=(l.takeWhile<|ltE x).length+1:=by simp
 have hR:∀eb,∃n,appW [.row 3<|(l.takeWhile (ltE x)++[x]).map Endz.enc] false 3 32 (.sl 0 ((l.takeWhile<|ltE x).length+1) 0 ((l.takeWhile<|ltE x).length+1) false) (.isl false eb 3<|(l.dropWhile<|ltE x).map Endz.enc) =
  some (.sl 0 n 0 n false,[.row 3<|(ZO8 x l).map Endz.enc])/\n=(ZO8 x l).length:=λeb=>by
  cases hd:l.dropWhile (ltE x)with
  |nil=>
   have h:=Z9Z (h:=[.row 3<|(l.takeWhile (ltE x)++[x]).map Endz.enc]) (sz:=3) (bytes:=32) (s:=.sl 0 ((l.takeWhile<|ltE x).length+1) 0 ((l.takeWhile<|ltE x).length+1) false) (es:=(l.takeWhile (ltE x)++[x]).map Endz.enc) (bw:=false) (ex:=eb) (fz:=false)
    (by simp[Q2];exact ZW5<|by simp) (by simp[Qq]) (by omega) (by omega) (by simp;omega)
   refine⟨_,by rw[ZWy,h];unfold ZO8;rw[hd],?_⟩
   unfold ZO8;rw[hd];simp
  |cons y r=>
   have h:=XC (h:=[.row 3<|(l.takeWhile (ltE x)++[x]).map Endz.enc]) (fz:=false) (b:=0) (g:=(l.takeWhile<|ltE x).length+1) (sz:=3) (es:=(l.takeWhile (ltE x)++[x]).map Endz.enc) (bw:=false) (ex:=eb) (ys:=(y::r).map Endz.enc) (bytes:=32) (by simp[rowAt]) rfl (by rw[ZXU];exact ZVT.2 λz _=>rfl) (by omega) (by omega) (by rw[hd]at e6;simp at e6⊢;omega)
   refine⟨_,by rw[h];unfold ZO8;rw[hd,<-ZW7,ZVY];rfl,?_⟩
   unfold ZO8;rw[hd];simp;omega
 obtain⟨n,hA,hn⟩:=hR<|ex&&l.length==l.length;have ht:=htk (ZO8 x l) n hn.symm;have e8:ZO8 x l=l.takeWhile (ltE x)++x::l.dropWhile (ltE x):=rfl;have hln:((ZO8 x l).length==n)=true:=by rw[hn];exact beq_self_eq_true _
 rw[Z5 (f:=85) rfl rfl];rw[beq_self_eq_true,ZVJ]at hA;generalize ZO8 x l=R at hA hn ht hln⊢;simp only[go_sem,c85,c85L0,Endz.enc,L',h1,hbS,hct,DS t3,e5,beq_self_eq_true,ZVJ,hA,hln,ht]
def ZO3(M:List Bool):Hp:=[.row 1<|M.map AV.bool]
def mkS(s:Sta)(M:List Bool)(id:Str):List Bool:=M.set (Zn s id).toNat true
def mkL(s:Sta)(M:List Bool)(l:List Str):List Bool:=l.foldl (mkS s) M
def cmS(s:Sta)(M:List Bool)(i:Nat):List Bool:=match s.Bc[i]? with
 |some d=>bif M.getD i false then mkL s M d.After.l else M
 |none=>M
def cmK(s:Sta)(M:List Bool)(i:Nat):List Bool:=(List.range i).foldl (cmS s) M
def ZPB(s:Sta):∀(l:List Str)(M:List Bool),(mkL s M l).length=M.length
 |[],M=>rfl
 |x::r,M=>by
  show(mkL s (mkS s M x) r).length=_
  rw[ZPB s r];unfold mkS;rw[ZWG]
def ZPC(s:Sta)(i:Nat):∀(l:List Str)(M:List Bool),M[i]?=some true->(mkL s M l)[i]?=some true
 |[],M,h=>h
 |x::r,M,h=>by
  show(mkL s (mkS s M x) r)[i]?=_
  apply ZPC s i r;unfold mkS;rw[ZXf];have hi:=Z7 h;split
  .rw[if_pos<|by omega]
  .exact h
def ZUC(s:Sta)(M:List Bool)(i:Nat):(cmS s M i).length=M.length:=by
 unfold cmS;split
 .cases M.getD i false with
  |true=>exact ZPB _ _ _
  |false=>rfl
 .rfl
def ZP2(s:Sta)(M:List Bool)(i:Nat):cmK s M (i+1)=cmS s (cmK s M i) i:=by
 unfold cmK;rw[ZXG,ZXH];rfl
def ZPe(s:Sta)(M:List Bool):∀i,(cmK s M i).length=M.length
 |0=>rfl
 |i+1=>by rw[ZP2,ZUC,ZPe s M i]
def ZUD(s:Sta)(hs:StS s)(M:List Bool)(hM:M.length=s.Bc.length)(i:Nat)(d:Ga)(hx:s.Bc[i]?=some d)(hd:DoS d)(hA:∀id∈d.After.l,0<=Zn s id/\Zn s id<s.Bc.length)(hMi:M[i]?=some true)(k:Nat)(id:Str)(hid:d.After.l[k]?=some id):
 ∃fr',Zb rE c83L0b [(2,stI s),(5,.sl 0 s.Bc.length 0 s.Bc.length true),(6,I i),(7,I k)] (ZO3 M)=some (.normal,fr',ZO3<|mkS s M id)/\Z2 [2,5,6,7] fr'=[(2,stI s),(5,.sl 0 s.Bc.length 0 s.Bc.length true),(6,I i),(7,I (k+1:Nat))]:=by
 have hk:=Z7 hid;obtain⟨a1,a2⟩:=hA id<|ZVN hid;have hg:=Z6 (f:=Ga.enc) hx;rw[show Ga.enc d=Zo d from rfl]at hg
 unfold Zo at hg;have hgk:=Z6 (f:=encS) hid;have hlk:=Zh hk;have hw:=Zx (n:=k) (by have:=hd.after;omega)
 have hf:=ZOs s hs id;have n1:((i:Int)).toNat=i:=rfl;have hil:=Z7 hx;have z1:=λes=>VT 0 s.Bc.length 0 1 (i:Int) s.Bc.length es ⟨by omega,by omega⟩
 have z2:=λes=>VT 0 s.Bc.length 0 1 (Zn s id) s.Bc.length es ⟨a1,a2⟩
 have hml:(M.map AV.bool).length=s.Bc.length:=by rw[ZVA,hM]
 have hmi:(M.map AV.bool)[i]?=some (.bool true):=Z6 (f:=AV.bool) hMi;obtain⟨b,hb⟩:∃b,M[(Zn s id).toNat]?=some b:=⟨_,ZVH<|by omega⟩
 have hmj:(M.map AV.bool)[(Zn s id).toNat]?=some (.bool b):=Z6 (f:=AV.bool) hb;have hbB:∀n,Zd n (M.map AV.bool)=true:=λn=>ZN _<|Zw (λt=>rfl) M
 have e:(M.map AV.bool).set (Zn s id).toNat (.bool true)=(mkS s M id).map AV.bool:=by unfold mkS;rw[ZXn]
 have hbB2:∀n,Zd n ((mkS s M id).map AV.bool)=true:=λn=>ZN _<|Zw (λt=>rfl) _
 unfold ZO3;refine⟨_,by simp only[go_sem,c83L0b,hg,hgk,hlk,hw,hf,n1,z1,z2,hml,hM,hmi,hmj,hbB,hbB2,e,encS,beq_self_eq_true,ZVA,ZVM,ZW6];rfl,?_⟩
 simp only[go_sem]
def ZUE(s:Sta)(hs:StS s)(M:List Bool)(hM:M.length=s.Bc.length)(i:Nat)(d:Ga)(hx:s.Bc[i]?=some d)(hd:DoS d)(hA:∀id∈d.After.l,0<=Zn s id/\Zn s id<s.Bc.length):
 ∃fr',Zg rE [2,5,6,7] c83L0b [(2,stI s),(5,.sl 0 s.Bc.length 0 s.Bc.length true),(6,I i),(7,.int .i64 0)] (ZO3 M)=some (.exit 2,fr',ZO3<|cmS s M i)/\get fr' 2=stI s/\get fr' 5=.sl 0 s.Bc.length 0 s.Bc.length true/\get fr' 6=I i:=by
 have hil:=Z7 hx;have hg:=Z6 (f:=Ga.enc) hx;rw[show Ga.enc d=Zo d from rfl]at hg
 unfold Zo at hg;have n1:((i:Int)).toNat=i:=rfl;have z1:=λes=>VT 0 s.Bc.length 0 1 (i:Int) s.Bc.length es ⟨by omega,by omega⟩
 have hcm:cmS s M i=bif M.getD i false then mkL s M d.After.l else M:=by unfold cmS;rw[hx]
 have stop:∀(M':List Bool)(k:Nat),M'.length=s.Bc.length->(M'[i]?=some false\/d.After.l.length<=k)->∃fr',Zb rE c83L0b [(2,stI s),(5,.sl 0 s.Bc.length 0 s.Bc.length true),(6,I i),(7,I k)] (ZO3 M')=some (.exit 2,fr',ZO3 M')/\get fr' 2=stI s/\get fr' 5=.sl 0 s.Bc.length 0 s.Bc.length true/\get fr' 6=I i:=λM' k hM' hc=>by
  have hml:(M'.map AV.bool).length=s.Bc.length:=by rw[ZVA,hM']
  have hbB:∀n,Zd n (M'.map AV.bool)=true:=λn=>ZN _<|Zw (λt=>rfl) M'
  obtain⟨b,hb⟩:∃b,M'[i]?=some b:=⟨_,ZVH<|by omega⟩
  have hmi:(M'.map AV.bool)[i]?=some (.bool b):=Z6 (f:=AV.bool) hb;unfold ZO3;cases b with
  |false=>
   refine⟨_,by simp only[go_sem,c83L0b,n1,z1,hml,hM',hmi,hbB,beq_self_eq_true,ZVA,ZVM,ZW6];rfl,?_,?_,?_⟩<;>simp only[go_sem]
  |true=>
   have hk:d.After.l.length<=k:=by
    rcases hc with h|h
    .rw[hb]at h;cases h
    .exact h
   have hlk:decide ((k:Int)<(d.After.l.length:Int))=false:=decide_eq_false<|by omega
   refine⟨_,by simp only[go_sem,c83L0b,hg,hlk,n1,z1,hml,hM',hmi,hbB,beq_self_eq_true,ZVA,ZVM,ZW6];rfl,?_,?_,?_⟩<;>simp only[go_sem]
 rw[hcm];cases hb:M.getD i false with
 |false=>
  have hMi:M[i]?=some false:=by
   rw[ZWD]at hb;have h:=ZVH (l:=M) (i:=i)<|by omega
   rw[h]at hb⊢;exact congrArg some hb
  obtain⟨fr',h1,h2⟩:=stop M 0 hM<|Or.inl hMi;exact⟨fr',Q7 rfl h1 (by simp),h2⟩
 |true=>
  have hMi:M[i]?=some true:=by
   rw[ZWD]at hb;have h:=ZVH (l:=M) (i:=i)<|by omega
   rw[h]at hb⊢;exact congrArg some hb
  have hmk:∀k,(mkL s M<|d.After.l.take k).length=s.Bc.length/\(mkL s M<|d.After.l.take k)[i]?=some true:=λk=>⟨by rw[ZPB,hM],ZPC s i _ M hMi⟩
  have hend:d.After.l.take d.After.l.length=d.After.l:=ZWj;obtain⟨fr',h1,h2⟩:=stop (mkL s M d.After.l) d.After.l.length (by rw[ZPB,hM])<|Or.inr<|ZVF _
  have L:=Y8 (E:=rE) (live:=[2,5,6,7]) (b:=c83L0b) d.After.l.length (λk=>[(2,stI s),(5,.sl 0 s.Bc.length 0 s.Bc.length true),(6,I i),(7,I k)]) (λk=>ZO3<|mkL s M<|d.After.l.take k) (λk=>rfl)
   (λk hk=>by
    obtain⟨id,hid⟩:∃x,d.After.l[k]?=some x:=⟨_,ZVH hk⟩;have e:mkL s M (d.After.l.take<|k+1)=mkS s (mkL s M<|d.After.l.take k) id:=by
     unfold mkL;rw[Us _ _ hid]
    obtain⟨g1,g2⟩:=hmk k;have h:=ZUD s hs (mkL s M<|d.After.l.take k) g1 i d hx hd hA g2 k id hid;rw[e];exact h)
   (e:=.exit 2) (fr:=fr') (h:=ZO3<|mkL s M d.After.l) (by rw[hend];exact h1) (by simp)
  exact⟨fr',L,h2⟩
def ZRy{E:Env}{d:Option Nat}{x y:Arg}{r:List AOper}{fr:Fr}{h:Hp}{n:Nat}(hx:ev E fr x=.int .i64 n)(hy:ev E fr y=.int .i64 n)(hn:n<=1000000):Z9 E (⟨d,.mks 1 (.bool false) 1 x y,none⟩::r) fr h=Z9 E r (ZB fr d<|.sl h.length n 0 n true) (h++[.row 1<|List.replicate n<|.bool false]):=by
 have e:(0<=(n:Int)/\(n:Int)<=(n:Int)/\(n:Int)*((1:Nat):Int)<=140737488355328/\(n:Int)<9223372036854775807/\fits 1 (.bool false)=true/\0<1):=⟨by omega,by omega,by omega,by omega,rfl,by omega⟩
 have e':(0<=(n:Int)/\(n:Int)<=(n:Int)/\(n:Int)*((1:Nat):Int)<=70368744177664/\(n:Int)<9223372036854775807/\fits 1 (.bool false)=true/\0<1):=⟨by omega,by omega,by omega,by omega,rfl,by omega⟩
 have key:=X9 (E:=E) (d:=d) (op:=.mks 1 (.bool false) 1 x y) (r:=r) (fr:=fr) (h:=h) (v:=some (.sl h.length n 0 n true,h++[.row 1<|List.replicate n<|.bool false])) rfl (by
 simp only[Z8,hx,hy];first|rw[if_pos e]|rw[if_pos e']
 simp only[ZM,ZH,J1,ZWJ,beq_self_eq_true])
 exact key
def ZPD(s:Sta):Prop:=∀d∈s.Bc,∀id∈d.After.l,0<=Zn s id/\Zn s id<s.Bc.length
def ZUF(s:Sta)(hs:StE s)(hA:ZPD s)(M:List Bool)(hM:M.length=s.Bc.length):
 ∃fr',Zg rE [2,5,6] c83L1b [(2,stI s),(5,.sl 0 s.Bc.length 0 s.Bc.length true),(6,.int .i64 0)] (ZO3 M)=some (.exit 0,fr',ZO3<|cmK s M s.Bc.length)/\get fr' 5=.sl 0 s.Bc.length 0 s.Bc.length true:=by
 have hbB:∀n(M:List Bool),Zd n (M.map AV.bool)=true:=λn M=>ZN _<|Zw (λt=>rfl) M
 have hl:=hs.sizes.doors;have hend:∃fr',Zb rE c83L1b [(2,stI s),(5,.sl 0 s.Bc.length 0 s.Bc.length true),(6,I s.Bc.length)] (ZO3<|cmK s M s.Bc.length)=some (.exit 0,fr',ZO3<|cmK s M s.Bc.length)/\get fr' 5=.sl 0 s.Bc.length 0 s.Bc.length true:=by
  unfold ZO3;refine⟨_,by simp only[go_sem,c83L1b,ZG,hbB,ZVA];rfl,?_⟩
  simp only[go_sem]
 obtain⟨fr',h1,h2⟩:=hend;have L:=Y8 (E:=rE) (live:=[2,5,6]) (b:=c83L1b) s.Bc.length (λi=>[(2,stI s),(5,.sl 0 s.Bc.length 0 s.Bc.length true),(6,I i)]) (λi=>ZO3<|cmK s M i) (λi=>rfl)
  (λi hi=>by
   obtain⟨d,hx⟩:∃x,s.Bc[i]?=some x:=⟨_,ZVH hi⟩;have hm:=ZVN hx;obtain⟨fr',h1,g2,g5,g6⟩:=ZUE s hs.sizes (cmK s M i) (by rw[ZPe,hM]) i d hx (hs.doors d hm)<|hA d hm
   have hlt:=Zh hi;have hw:=Zx (n:=i)<|by omega
   rw[ZP2];generalize cmS s (cmK s M i) i=M2 at h1⊢;generalize cmK s M i=M1 at h1⊢;unfold ZO3 at h1⊢;refine⟨_,by simp only[go_sem,c83L1b,c83L0,hlt,hw,hbB,h1,g2,g5,g6,ZVA];rfl,?_⟩
   simp only[go_sem])
  (e:=.exit 0) (fr:=fr') (h:=ZO3<|cmK s M s.Bc.length) h1 (by simp)
 exact⟨fr',L,h2⟩
def ZO9(s:Sta)(id:Str):List Bool:=cmK s (mkS s (List.replicate s.Bc.length false) id) s.Bc.length
def ZQ2(s:Sta)(id:Str):(ZO9 s id).length=s.Bc.length:=by
 unfold ZO9 mkS;rw[ZPe,ZWG,ZWX]
def ZUG(s:Sta)(hs:StE s)(hA:ZPD s)(id:Str)(h0:0<=Zn s id)(h1:Zn s id<s.Bc.length):pfn rE 83 [stA s,.str id]=some (.isl false false 1<|(ZO9 s id).map AV.bool):=by
 have hl:=hs.sizes.doors;have hM:(mkS s (List.replicate s.Bc.length false) id).length=s.Bc.length:=by unfold mkS;rw[ZWG,ZWX]
 obtain⟨fr',L,g5⟩:=ZUF s hs hA _ hM;have hlen:=ZQ2 s id;have hbB:∀n(M:List Bool),Zd n (M.map AV.bool)=true:=λn M=>ZN _<|Zw (λt=>rfl) M
 have hcB:∀(M:List Bool),Z4 (M.map AV.bool)=true:=λM=>Zw (λt=>rfl) M
 have hf:=ZOs s hs.sizes id;have z2:=λes=>VT 0 s.Bc.length 0 1 (Zn s id) s.Bc.length es ⟨h0,h1⟩
 have hr:List.replicate s.Bc.length (AV.bool false)=(List.replicate s.Bc.length false).map AV.bool:=by rw[List.map_replicate]
 have hj:((List.replicate s.Bc.length false).map AV.bool)[(Zn s id).toNat]?=some (.bool false):=Z6 (f:=AV.bool)<|by rw[ZX4,if_pos<|by omega]
 have e:((List.replicate s.Bc.length false).map AV.bool).set (Zn s id).toNat (.bool true)=(mkS s (List.replicate s.Bc.length false) id).map AV.bool:=by unfold mkS;rw[ZXn]
 have hb0:∀n,Zd n (List.replicate s.Bc.length<|AV.bool false)=true:=λn=>by rw[hr];exact hbB n _
 unfold ZO3 at L;rw[show cmK s (mkS s (List.replicate s.Bc.length false) id) s.Bc.length=ZO9 s id from rfl]at L
 generalize mkS s (List.replicate s.Bc.length false) id=M1 at L e hM;generalize ZO9 s id=M2 at L hlen⊢;have hnn:(0<=(s.Bc.length:Int))=True:=by simp
 have ht:List.take s.Bc.length (M2.map AV.bool)=M2.map AV.bool:=ZW5<|by simp[hlen]
 have hmk:=λ(fr:Fr)(hx:ev rE fr (.t 10)=.int .i64 s.Bc.length)(d:Option Nat)(r:List AOper)=>ZRy (E:=rE) (d:=d) (r:=r) (h:=[]) hx hx<|by omega
 rw[Z5 (f:=83) rfl rfl];simp only[go_sem,hmk,c83,c83L1,hf,z2,hr,hj,e,hM,hlen,L,g5,hbB,hcB,hb0,hnn,ht,ZVA,ZWX,beq_self_eq_true,ZVM,ZW6,if_true]
 done
def ftA(ea eb:Bool)(D:List Str)(E:List Endz):AV:=.agg [.isl false ea 1<|D.map encS,.isl false eb 3<|E.map Endz.enc]
def ZKN(s:Sta)(hs:StS s)(id:Str):pfn rE 88 [.isl false false 6<|s.Nk.map be.enc,.clo (.func 89) [] [.iptr false [.str id]]]=some (I<|Wf s id):=by
 have hp:∀x:be,pfn rE 89 [x.enc,.iptr false [.str id]]=some (.bool<|Z3 x.Id id):=λx=>by
  rw[Z5 (f:=89) rfl rfl];simp only[go_sem,c89,be.enc]
 exact WF (E:=rE) (f:=88) (sz:=6) (n:=some 6) (enc:=be.enc) (p:=λx=>Z3 x.Id id) (g:=89) (cap:=[.iptr false [.str id]]) rfl rfl rfl s.Nk (by have:=hs.units;omega) (λx _=>x.el) (λx _=>hp x) false false
def ZUH(s:Sta)(hs:StE s)(id:Str)(h:Jx s=false):pfn rE 23 [stA s,.str id]=some (.tup [ftA false false [] [],I 1]):=by
 have h1:=Z3i s hs;rw[h]at h1;rw[Z5 (f:=23) rfl rfl];simp only[go_sem,c23,h1,ZVE,ftA,List.map]
def ZUI(s:Sta)(hs:StE s)(id:Str)(h:Jx s=true)(hn:Wf s id<0):pfn rE 23 [stA s,.str id]=some (.tup [ftA false false [] [],I 10]):=by
 have h1:=Z3i s hs;have h2:=ZKN s hs.sizes id;have h3:decide (Wf s id<0)=true:=decide_eq_true hn;rw[h]at h1;rw[Z5 (f:=23) rfl rfl];simp only[go_sem,c23,h1,h2,h3,ZVC,ftA,List.map]
def ZKT(s:Sta)(hs:StE s)(id:Str)(h:Jx s=true)(k:Nat)(u:be)(hk:Wf s id=k)(hu:s.Nk[k]?=some u)(he:¬u.Ld<0):pfn rE 23 [stA s,.str id]=some (.tup [ftA false false [] [⟨u.Id,u.Why,u.Ld⟩],I 0]):=by
 have h1:=Z3i s hs;have h2:=ZKN s hs.sizes id;have h3:decide ((k:Int)<0)=false:=decide_eq_false<|by omega
 have h4:decide (u.Ld<0)=false:=decide_eq_false he;have hg:=Z6 (f:=be.enc) hu;have hk1:(0<=(k:Int))=True:=by simp
 have hk2:((k:Int)).toNat=k:=ZWJ k;rw[h]at h1;rw[hk]at h2;rw[Z5 (f:=23) rfl rfl];simp only[go_sem,c23,h1,h2,h3,h4,hg,hk1,hk2,if_true,be.enc,ZVC,ftA,Endz.enc,List.map]
def ZKU(s:Sta)(hs:StE s)(id:Str)(h:Jx s=true)(k:Nat)(u:be)(hk:Wf s id=k)(hu:s.Nk[k]?=some u)(he:u.Ld<0)(ea eb:Bool)(D:List Str)(E:List Endz)(e:Int)(hf:pfn rE 19 [stA s,.str u.Ga]=some (.tup [ftA ea eb D E,I e])):
 pfn rE 23 [stA s,.str id]=some (.tup [ftA ea eb D E,I e]):=by
 have h1:=Z3i s hs;have h2:=ZKN s hs.sizes id;have h3:decide ((k:Int)<0)=false:=decide_eq_false<|by omega
 have h4:decide (u.Ld<0)=true:=decide_eq_true he;have hg:=Z6 (f:=be.enc) hu;have hk1:(0<=(k:Int))=True:=by simp
 have hk2:((k:Int)).toNat=k:=ZWJ k;rw[h]at h1;rw[hk]at h2;unfold ftA at hf⊢;rw[Z5 (f:=23) rfl rfl];simp only[go_sem,c23,h1,h2,h3,h4,hg,hk1,hk2,if_true,be.enc,ZVC,hf]
def faS(s:Sta)(M:List Bool)(st:List Str×List Endz)(i:Nat):List Str×List Endz:=match s.Bc[i]? with
 |some d=>bif !M.getD i false||decide (Yf d>0)then st else bif d.Ld==-1 then(ZOw d.Id st.1,st.2)else(st.1,ZO8 ⟨d.Id,d.Why,d.Ld⟩ st.2)
 |none=>st
def faK(s:Sta)(M:List Bool)(i:Nat):List Str×List Endz:=(List.range i).foldl (faS s M) ([],[])
def ZQ3(s:Sta)(M:List Bool)(i:Nat):faK s M (i+1)=faS s M (faK s M i) i:=by
 unfold faK;rw[ZXG,ZXH];rfl
def ZRz(x:Str)(l:List Str):∀i,i<=l.length->(ZO7 x l i).1.length<=i+cond (ZO7 x l i).2 1 0
 |0,_=>by simp[ZO7]
 |i+1,h=>by
  obtain⟨y,hy⟩:∃y,l[i]?=some y:=⟨_,ZVH<|by omega⟩
  have ih:=ZRz x l i<|by omega
  rw[ZQ0 hy];generalize ZO7 x l i=st at ih⊢;obtain⟨K,d⟩:=st;unfold ZOh;dsimp only at ih⊢;cases Z3 y x<;>cases d<;>cases WW y x<;>simp at ih⊢<;>omega
def ZRA(x:Str)(l:List Str):(ZOw x l).length<=l.length+1:=by
 have h:=ZRz x l l.length<|ZVF _;unfold ZOw;generalize ZO7 x l l.length=st at h⊢;obtain⟨K,d⟩:=st;cases d<;>simp at h⊢<;>omega
def ZUJ(x:Endz)(l:List Endz):(ZO8 x l).length=l.length+1:=by
 unfold ZO8;have h:(l.takeWhile<|ltE x).length+(l.dropWhile<|ltE x).length=l.length:=by rw[<-ZVQ,ZYr]
 rw[ZVQ,ZVU];omega
def ZQ4(s:Sta)(M:List Bool):∀i,(faK s M i).1.length<=i/\(faK s M i).2.length<=i
 |0=>⟨ZVF _,ZVF _⟩
 |i+1=>by
  obtain⟨h1,h2⟩:=ZQ4 s M i;rw[ZQ3];generalize faK s M i=st at h1 h2⊢;unfold faS;split
  .rename_i d _;have h3:=ZRA d.Id st.1;have h4:=ZUJ ⟨d.Id,d.Why,d.Ld⟩ st.2;cases !M.getD i false||decide (Yf d>0)with
   |true=>exact⟨by simp only[cond_true];omega,by simp only[cond_true];omega⟩
   |false=>
    cases d.Ld==-1 with
    |true=>exact⟨by simp only[cond_true,cond_false];omega,by simp only[cond_true,cond_false];omega⟩
    |false=>exact⟨by simp only[cond_false];omega,by simp only[cond_false];omega⟩
  .exact⟨by omega,by omega⟩
def faH(st:List Str×List Endz):Hp:=[.row 2 [.agg [.isl false false 1 [],.isl false false 3 []]],.row 2 [.agg [.isl false false 1<|st.1.map encS,.isl false false 3<|st.2.map Endz.enc]]]
def faF(s:Sta)(M:List Bool)(i:Nat):Fr:=[(2,stI s),(4,.ptr 0 0 0 1),(6,.isl false false 1<|M.map AV.bool),(7,.ptr 1 0 0 1),(8,I i)]
def ZUK(s:Sta)(hs:StE s)(M:List Bool)(hM:M.length=s.Bc.length)(st:List Str×List Endz)(hD:st.1.length<=100000)(hE:st.2.length<=100000)(i:Nat)(hi:i<s.Bc.length):
 ∃fr',Zb rE c20L0b (faF s M i) (faH st)=some (.normal,fr',faH<|faS s M st i)/\Z2 [2,4,6,7,8] fr'=faF s M (i+1):=by
 obtain⟨d,hx⟩:∃x,s.Bc[i]?=some x:=⟨_,ZVH hi⟩;have hl:=hs.sizes.doors;have hg:=Z6 (f:=Ga.enc) hx;rw[show Ga.enc d=Zo d from rfl]at hg
 unfold Zo at hg;obtain⟨b,hb⟩:∃b,M[i]?=some b:=⟨_,ZVH<|by omega⟩
 have hmb:=Z6 (f:=AV.bool) hb;have hgd:M.getD i false=b:=by rw[ZWD,hb];rfl
 have hlt:decide ((i:Int)<(M.length:Int))=true:=decide_eq_true<|by omega
 have hw:=Zx (n:=i)<|by omega
 have en:(d.After.l.length:Int)=Yf d:=rfl;obtain⟨D,E⟩:=st;have hp:=ZRt false D d.Id hD;have he:=ZRx false E ⟨d.Id,d.Why,d.Ld⟩ hE;unfold Endz.enc at he;have he':pfn rE 85 [.isl false false 3<|E.map Endz.enc,.agg [.str d.Id,I d.Why,I d.Ld]]=some (.isl false false 3<|(ZO8 ⟨d.Id,d.Why,d.Ld⟩ E).map Endz.enc):=ZRx false E ⟨d.Id,d.Why,d.Ld⟩ hE;have hcS:∀K:List Str,Z4 (K.map encS)=true:=λK=>Zw (λt=>rfl) K
 have hcE:∀K:List Endz,Z4 (K.map Endz.enc)=true:=λK=>Zw (λt=>rfl) K
 have hbS:∀n(K:List Str),Zd n (K.map encS)=true:=λn K=>ZN _<|hcS K
 have hbE:∀n(K:List Endz),Zd n (K.map Endz.enc)=true:=λn K=>ZN _<|hcE K
 unfold faS;rw[hx];dsimp only;rw[hgd];unfold faH faF;cases b with
 |false=>
  refine⟨_,by simp only[go_sem,c20L0b,hg,hmb,hlt,hw,hbS,hbE,hcS,hcE,ZVA,ZVE,ZVR];rfl,?_⟩
  simp only[go_sem]
 |true=>
  cases c1:decide (Yf d>0)with
  |true=>
   refine⟨_,by simp only[go_sem,c20L0b,hg,hmb,hlt,hw,en,c1,hbS,hbE,hcS,hcE,ZVA,ZVC,ZVS];rfl,?_⟩
   simp only[go_sem]
  |false=>
   cases c2:(d.Ld==-1)with
   |true=>
    refine⟨_,by simp only[go_sem,c20L0b,hg,hmb,hlt,hw,en,c1,c2,hp,hbS,hbE,hcS,hcE,ZVA,ZVC,ZVS];rfl,?_⟩
    simp only[go_sem]
   |false=>
    refine⟨_,by simp only[go_sem,c20L0b,hg,hmb,hlt,hw,en,c1,c2,he',hbS,hbE,hcS,hcE,ZVA,ZVC,ZVS];rfl,?_⟩
    simp only[go_sem]
def ZUL(s:Sta)(hs:StE s)(M:List Bool)(hM:M.length=s.Bc.length):
 ∃fr',Zg rE [2,4,6,7,8] c20L0b (faF s M 0) (faH ([],[]))=some (.exit 0,fr',faH<|faK s M s.Bc.length)/\get fr' 4=.ptr 0 0 0 1/\get fr' 7=.ptr 1 0 0 1:=by
 have hl:=hs.sizes.doors;have hcS:∀K:List Str,Z4 (K.map encS)=true:=λK=>Zw (λt=>rfl) K
 have hcE:∀K:List Endz,Z4 (K.map Endz.enc)=true:=λK=>Zw (λt=>rfl) K
 have hend:∃fr',Zb rE c20L0b (faF s M s.Bc.length) (faH<|faK s M s.Bc.length)=some (.exit 0,fr',faH<|faK s M s.Bc.length)/\get fr' 4=.ptr 0 0 0 1/\get fr' 7=.ptr 1 0 0 1:=by
  have hlt:decide ((s.Bc.length:Int)<(M.length:Int))=false:=decide_eq_false<|by omega
  unfold faH faF;refine⟨_,by simp only[go_sem,c20L0b,hlt,hcS,hcE,ZVA];rfl,?_,?_⟩<;>simp only[go_sem]
 obtain⟨fr',h1,h2⟩:=hend;have L:=Y8 (E:=rE) (live:=[2,4,6,7,8]) (b:=c20L0b) s.Bc.length (faF s M) (λi=>faH<|faK s M i) (λi=>rfl)
  (λi hi=>by
   obtain⟨b1,b2⟩:=ZQ4 s M i;rw[ZQ3];exact ZUK s hs M hM _ (by omega) (by omega) i hi)
  (e:=.exit 0) (fr:=fr') (h:=faH<|faK s M s.Bc.length) h1 (by simp)
 exact⟨fr',L,h2⟩
def ZOX(s:Sta)(id:Str):List Str×List Endz:=faK s (ZO9 s id) s.Bc.length
def ZUM(s:Sta)(hs:StR s)(id:Str)(hp:Jx s=true)(hA:ZPD s)(h0:0<=Zn s id)(h1:Zn s id<s.Bc.length):pfn rE 20 [stA s,.str id]=some (.tup [ftA false false (ZOX s id).1 (ZOX s id).2,I 0]):=by
 have hP:=ZOv s hs;have hf:=ZOs s hs.toStE.sizes id;have hc:=ZUG s hs.toStE hA id h0 h1;obtain⟨fr',L,g4,g7⟩:=ZUL s hs.toStE (ZO9 s id)<|ZQ2 s id;have hcS:∀K:List Str,Z4 (K.map encS)=true:=λK=>Zw (λt=>rfl) K
 have hcE:∀K:List Endz,Z4 (K.map Endz.enc)=true:=λK=>Zw (λt=>rfl) K
 have hn:decide (Zn s id<0)=false:=decide_eq_false<|by omega
 rw[show faK s (ZO9 s id) s.Bc.length=ZOX s id from rfl]at L
 generalize ZOX s id=R at L⊢;generalize ZO9 s id=M at L hc;have hcB:Z4 (M.map AV.bool)=true:=Zw (λt=>rfl) M
 unfold faF faH at L;have L':Zg rE [2,4,6,7,8] c20L0b [(2,stI s),(4,.ptr 0 0 0 1),(6,.isl false false 1<|M.map AV.bool),(7,.ptr 1 0 0 1),(8,.int .i64 0)] [.row 2 [.agg [.isl false false 1 [],.isl false false 3 []]],.row 2 [.agg [.isl false false 1 [],.isl false false 3 []]]]=_:=L;unfold ftA;rw[hp]at hP;rw[Z5 (f:=20) rfl rfl];simp only[go_sem,c20,c20L0,hP,hf,hc,hn,L',g4,g7,hcS,hcE,hcB,ZVC]
def ZUN(s:Sta)(hs:StR s)(id:Str)(hp:Jx s=true)(h0:Zn s id<0):pfn rE 20 [stA s,.str id]=some (.tup [ftA false false [] [],I 10]):=by
 have hP:=ZOv s hs;have hf:=ZOs s hs.toStE.sizes id;have hn:decide (Zn s id<0)=true:=decide_eq_true h0;unfold ftA;rw[hp]at hP;rw[Z5 (f:=20) rfl rfl];simp only[go_sem,c20,hP,hf,hn,ZVC,ZWy]
def ZUO(s:Sta)(hs:StR s)(id:Str)(hp:Jx s=false):pfn rE 20 [stA s,.str id]=some (.tup [ftA false false [] [],I 1]):=by
 have hP:=ZOv s hs;unfold ftA;rw[hp]at hP;rw[Z5 (f:=20) rfl rfl];simp only[go_sem,c20,hP,ZVE,ZWy]
def ZRB(ea eb ec ed:Bool)(D:List Str)(E:List Endz)(hD:D.length<=1000000)(hE:E.length<=1000000):pfn rE 25 [ftA ea eb D E,ftA ec ed D E]=some (.bool true):=by
 have ht:=ZRs false ea false ec D D hD;rw[ZPx ZOg]at ht;have hcS:∀K:List Str,Z4 (K.map encS)=true:=λK=>Zw (λt=>rfl) K
 have hcE:∀K:List Endz,Z4 (K.map Endz.enc)=true:=λK=>Zw (λt=>rfl) K
 have L:=Uf (E:=rE) (live:=[2,3,5]) (b:=c25L0b) (h:=[]) E (λ_ _=>true) (λi=>[(2,.iptr false [.isl false ea 1<|D.map encS,.isl false eb 3<|E.map Endz.enc]),(3,.iptr false [.isl false ec 1<|D.map encS,.isl false ed 3<|E.map Endz.enc]),(5,I i)]) 0 (λfr=>True) (λk=>rfl)
  (λi x hx _=>by
   have hg:=Z6 (f:=Endz.enc) hx;have hlt:=Zh<|Z7 hx;have hw:=Zx (n:=i) (by have:=Z7 hx;omega)
   have h1:Z3 x.Id x.Id=true:=ZOg _;have h2:∀n:Int,(n==n)=true:=λn=>by simp
   refine⟨_,by simp only[go_sem,c25L0b,hg,hlt,hw,Endz.enc,h1,h2,ZVA,ZWd,ZVC];rfl,?_⟩
   simp only[go_sem])
  (λi x hx h=>by cases h)
  (⟨_,by simp only[go_sem,c25L0b,ZG,ZVA];rfl⟩)
 obtain⟨fr',h1,_⟩:=L;rw[QE,show E.all (λ_=>true)=true from ZVT.2 λ_ _=>rfl]at h1
 have h1':Zg rE [2,3,5] c25L0b [(2,.iptr false [.isl false ea 1<|D.map encS,.isl false eb 3<|E.map Endz.enc]),(3,.iptr false [.isl false ec 1<|D.map encS,.isl false ed 3<|E.map Endz.enc]),(5,.int .i64 0)] []=_:=h1;have hne:((E.length:Int) != (E.length:Int))=false:=by simp
 rw[Z5 (f:=25) rfl rfl];unfold ftA;simp only[go_sem,c25,c25L0,h1',ht,hne,hcS,hcE,ZVA,if_true,ZVC]
def ZUP(s:Sta)(hs:StR s)(id:Str)(hp:Jx s=false):pfn rE 24 [stA s,.str id]=some (.tup [ftA false false [] [],I 1]):=by
 have hP:=ZOv s hs;unfold ftA;rw[hp]at hP;rw[Z5 (f:=24) rfl rfl];simp only[go_sem,c24,hP,ZVE,ZWy]
def ZUQ(s:Sta)(hs:StR s)(id:Str)(hp:Jx s=true)(h0:Wf s id<0):pfn rE 24 [stA s,.str id]=some (.tup [ftA false false [] [],I 10]):=by
 have hP:=ZOv s hs;have hf:=ZPX s hs.toStE.sizes id;have hn:decide (Wf s id<0)=true:=decide_eq_true h0;unfold ftA;rw[hp]at hP;rw[Z5 (f:=24) rfl rfl];simp only[go_sem,c24,hP,hf,hn,ZVC,ZWy]
def ZUR(s:Sta)(hs:StR s)(id:Str)(hp:Jx s=true)(k:Nat)(u:be)(hk:Wf s id=k)(hu:s.Nk[k]?=some u)(he:(u.Ld==-1)=false):pfn rE 24 [stA s,.str id]=some (.tup [ftA false false [] [⟨u.Id,u.Why,u.Ld⟩],I 0]):=by
 have hP:=ZOv s hs;have hf:=ZPX s hs.toStE.sizes id;have hn:decide ((k:Int)<0)=false:=decide_eq_false<|by omega
 have hg:(s.Nk.map be.enc)[k]?=some (.agg [.str u.Id,.str u.Ga,.str u.Text,I u.From,I u.Ld,I u.Why]):=Z6 (f:=be.enc) hu;rw[hk]at hf;unfold ftA;rw[hp]at hP;rw[Z5 (f:=24) rfl rfl];simp only[go_sem,c24,hP,hf,hn,hg,he,ZVC,ZWy,ZVV,Endz.enc]
def ZUS(s:Sta)(hs:StR s)(id:Str)(hp:Jx s=true)(k:Nat)(u:be)(hk:Wf s id=k)(hu:s.Nk[k]?=some u)(he:(u.Ld==-1)=true)(D:List Str)(E:List Endz)(e:Int)(hF:pfn rE 20 [stA s,.str u.Ga]=some (.tup [ftA false false D E,I e])):pfn rE 24 [stA s,.str id]=some (.tup [ftA false false D E,I e]):=by
 have hP:=ZOv s hs;have hf:=ZPX s hs.toStE.sizes id;have hn:decide ((k:Int)<0)=false:=decide_eq_false<|by omega
 have hg:(s.Nk.map be.enc)[k]?=some (.agg [.str u.Id,.str u.Ga,.str u.Text,I u.From,I u.Ld,I u.Why]):=Z6 (f:=be.enc) hu;have hcS:∀K:List Str,Z4 (K.map encS)=true:=λK=>Zw (λt=>rfl) K
 have hcE:∀K:List Endz,Z4 (K.map Endz.enc)=true:=λK=>Zw (λt=>rfl) K
 rw[hk]at hf;unfold ftA at hF⊢;rw[hp]at hP;rw[Z5 (f:=24) rfl rfl];simp only[go_sem,c24,hP,hf,hn,hg,he,hF,hcS,hcE,ZVC]
def inA(s:Sta)(k i:Nat):Bool:=match s.Bc[k]?,s.Bc[i]? with
 |some a,some b=>a.After.l.any<|λy=>Z3 y b.Id
 |_,_=>false
def orF(s:Sta)(i:Nat)(st:List Bool×Bool)(k:Nat):List Bool×Bool:=bif inA s k i then(st.1.set k true,false)else st
def orK(s:Sta)(i:Nat)(M:List Bool)(k:Nat):List Bool×Bool:=(List.range k).foldl (orF s i) (M,true)
def ZP3(s:Sta)(i:Nat)(M:List Bool)(k:Nat):orK s i M (k+1)=orF s i (orK s i M k) k:=by
 unfold orK;rw[ZXG,ZXH];rfl
def ZP4(s:Sta)(i:Nat)(M:List Bool):∀k,(orK s i M k).1.length=M.length
 |0=>rfl
 |k+1=>by
  rw[ZP3];unfold orF;cases inA s k i with
  |true=>simp only[cond_true,ZWG];exact ZP4 s i M k
  |false=>exact ZP4 s i M k
def ZQ5(s:Sta)(i:Nat)(M:List Bool):∀k,k<=i->(orK s i M k).1[i]?=M[i]?
 |0,_=>rfl
 |k+1,h=>by
  rw[ZP3];unfold orF;cases inA s k i with
  |true=>simp only[cond_true];rw[ZXq<|by omega];exact ZQ5 s i M k<|by omega
  |false=>exact ZQ5 s i M k<|by omega
def slO(n:Nat):AV:=.sl 0 n 0 n true
def ZUT(s:Sta)(hs:StE s)(v:AV)(hv:∀n,bel n v=true)(i:Nat)(hi:i<s.Bc.length)(M:List Bool)(hM:M.length=s.Bc.length)(hMi:M[i]?=some true)(f:Bool)(k:Nat)(hk:k<i):
 ∃fr',Zb rE c22L0b [(2,stI s),(6,slO s.Bc.length),(7,v),(8,I i),(9,.bool f),(10,I k)] (ZO3 M)=some (.normal,fr',ZO3 (orF s i (M,f) k).1)/\
  Z2 [2,6,7,8,9,10] fr'=[(2,stI s),(6,slO s.Bc.length),(7,v),(8,I i),(9,.bool (orF s i (M,f) k).2),(10,I (k+1:Nat))]:=by
 obtain⟨a,hx⟩:∃x,s.Bc[k]?=some x:=⟨_,ZVH<|by omega⟩
 obtain⟨b,hy⟩:∃x,s.Bc[i]?=some x:=⟨_,ZVH hi⟩;have hl:=hs.sizes.doors;have hgx:=Z6 (f:=Ga.enc) hx;have hgy:=Z6 (f:=Ga.enc) hy;rw[show Ga.enc a=Zo a from rfl]at hgx
 rw[show Ga.enc b=Zo b from rfl]at hgy
 unfold Zo at hgx hgy;have hin:=ZUB false a.After.ex a.After.l b.Id (by have:=(hs.doors a<|ZVN hx).after;omega)
 have hlt:=Zh hk;have hw:=Zx (n:=k)<|by omega
 have n1:((i:Int)).toNat=i:=rfl;have n2:((k:Int)).toNat=k:=rfl;have z1:=λes=>VT 0 s.Bc.length 0 1 (i:Int) s.Bc.length es ⟨by omega,by omega⟩
 have z2:=λes=>VT 0 s.Bc.length 0 1 (k:Int) s.Bc.length es ⟨by omega,by omega⟩
 have hml:(M.map AV.bool).length=s.Bc.length:=by rw[ZVA,hM]
 have hmi:(M.map AV.bool)[i]?=some (.bool true):=Z6 (f:=AV.bool) hMi;obtain⟨c,hc⟩:∃b,M[k]?=some b:=⟨_,ZVH<|by omega⟩
 have hmk:(M.map AV.bool)[k]?=some (.bool c):=Z6 (f:=AV.bool) hc;have hbB:∀n(M:List Bool),Zd n (M.map AV.bool)=true:=λn M=>ZN _<|Zw (λt=>rfl) M
 have e:(M.map AV.bool).set k (.bool true)=(M.set k true).map AV.bool:=by rw[ZXn]
 have eI:inA s k i=a.After.l.any (λy=>Z3 y b.Id):=by unfold inA;rw[hx,hy]
 unfold orF ZO3 slO;rw[eI];cases h:a.After.l.any (λy=>Z3 y b.Id)with
 |true=>
  rw[h]at hin;refine⟨_,by simp only[go_sem,c22L0b,hgx,hgy,hlt,hw,hin,n1,n2,z1,z2,hml,hM,hmi,hmk,hbB,e,hv,beq_self_eq_true,ZVA,ZVM,ZW6];rfl,?_⟩
  simp only[go_sem]
 |false=>
  rw[h]at hin;refine⟨_,by simp only[go_sem,c22L0b,hgx,hgy,hlt,hw,hin,n1,n2,z1,z2,hml,hM,hmi,hmk,hbB,hv,beq_self_eq_true,ZVA,ZVM,ZW6];rfl,?_⟩
  simp only[go_sem]
def orI(s:Sta)(i:Nat)(M:List Bool):List Bool×Bool:=bif M.getD i false then orK s i M i else(M,true)
def ZJK(s:Sta)(hs:StE s)(v:AV)(hv:∀n,bel n v=true)(i:Nat)(hi:i<s.Bc.length)(M:List Bool)(hM:M.length=s.Bc.length):
 ∃fr',Zg rE [2,6,7,8,9,10] c22L0b [(2,stI s),(6,slO s.Bc.length),(7,v),(8,I i),(9,.bool true),(10,.int .i64 0)] (ZO3 M)=some (.exit 2,fr',ZO3 (orI s i M).1)/\get fr' 2=stI s/\get fr' 6=slO s.Bc.length/\get fr' 7=v/\get fr' 8=I i/\get fr' 9=.bool (orI s i M).2:=by
 have n1:((i:Int)).toNat=i:=rfl;have hl:=hs.sizes.doors;have z1:=λes=>VT 0 s.Bc.length 0 1 (i:Int) s.Bc.length es ⟨by omega,by omega⟩
 have hbB:∀n(M:List Bool),Zd n (M.map AV.bool)=true:=λn M=>ZN _<|Zw (λt=>rfl) M
 have stop:∀(M':List Bool)(k:Nat)(f:Bool),M'.length=s.Bc.length->(M'[i]?=some false\/i<=k)->∃fr',Zb rE c22L0b [(2,stI s),(6,slO s.Bc.length),(7,v),(8,I i),(9,.bool f),(10,I k)] (ZO3 M')=some (.exit 2,fr',ZO3 M')/\get fr' 2=stI s/\get fr' 6=slO s.Bc.length/\get fr' 7=v/\get fr' 8=I i/\get fr' 9=.bool f:=λM' k f hM' hc=>by
  have hml:(M'.map AV.bool).length=s.Bc.length:=by rw[ZVA,hM']
  obtain⟨b,hb⟩:∃b,M'[i]?=some b:=⟨_,ZVH<|by omega⟩
  have hmi:(M'.map AV.bool)[i]?=some (.bool b):=Z6 (f:=AV.bool) hb;unfold ZO3 slO;cases b with
  |false=>
   refine⟨_,by simp only[go_sem,c22L0b,n1,z1,hml,hM',hmi,hbB,hv,beq_self_eq_true,ZVA,ZVM,ZW6];rfl,?_,?_,?_,?_,?_⟩<;>simp only[go_sem]
  |true=>
   have hk:i<=k:=by
    rcases hc with h|h
    .rw[hb]at h;cases h
    .exact h
   have hlk:decide ((k:Int)<(i:Int))=false:=decide_eq_false<|by omega
   refine⟨_,by simp only[go_sem,c22L0b,hlk,n1,z1,hml,hM',hmi,hbB,hv,beq_self_eq_true,ZVA,ZVM,ZW6];rfl,?_,?_,?_,?_,?_⟩<;>simp only[go_sem]
 have hget:=ZVH (l:=M) (i:=i)<|by omega
 unfold orI;cases hb:M.getD i false with
 |false=>
  have hMi:M[i]?=some false:=by
   rw[ZWD,hget]at hb;rw[hget];exact congrArg some hb
  obtain⟨fr',h1,h2⟩:=stop M 0 true hM<|Or.inl hMi;exact⟨fr',Q7 rfl h1 (by simp),h2⟩
 |true=>
  have hMi:M[i]?=some true:=by
   rw[ZWD,hget]at hb;rw[hget];exact congrArg some hb
  obtain⟨fr',h1,h2⟩:=stop (orK s i M i).1 i (orK s i M i).2 (by rw[ZP4,hM]) (Or.inr<|ZVF _)
  have L:=Y8 (E:=rE) (live:=[2,6,7,8,9,10]) (b:=c22L0b) i (λk=>[(2,stI s),(6,slO s.Bc.length),(7,v),(8,I i),(9,.bool (orK s i M k).2),(10,I k)]) (λk=>ZO3 (orK s i M k).1) (λk=>rfl)
   (λk hk=>by
    have h:=ZUT s hs v hv i hi (orK s i M k).1 (by rw[ZP4,hM]) (by rw[ZQ5 s i M k<|by omega];exact hMi) (orK s i M k).2 k hk
    rw[ZP3];exact h)
   (e:=.exit 2) (fr:=fr') (h:=ZO3 (orK s i M i).1) h1 (by simp)
  exact⟨fr',L,h2⟩
def orS(s:Sta)(st:List Bool×List Str)(i:Nat):List Bool×List Str:=
 match s.Bc[i]? with
 |some d=>bif (orI s i st.1).1.getD i false&&(orI s i st.1).2 then((orI s i st.1).1,ZOw d.Id st.2)else((orI s i st.1).1,st.2)
 |none=>st
def orJ(s:Sta)(M:List Bool)(j:Nat):List Bool×List Str:=(List.range j).foldl (λst j=>orS s st<|s.Bc.length-1-j) (M,[])
def ZQ6(s:Sta)(M:List Bool)(j:Nat):orJ s M (j+1)=orS s (orJ s M j) (s.Bc.length-1-j):=by
 unfold orJ;rw[ZXG,ZXH];rfl
def ZQ7(s:Sta)(i:Nat)(M:List Bool):(orI s i M).1.length=M.length:=by
 unfold orI;cases M.getD i false with
 |true=>exact ZP4 s i M i
 |false=>rfl
def ZRC(s:Sta)(M:List Bool):∀j,(orJ s M j).1.length=M.length/\(orJ s M j).2.length<=j
 |0=>⟨rfl,ZVF _⟩
 |j+1=>by
  obtain⟨h1,h2⟩:=ZRC s M j;rw[ZQ6];generalize orJ s M j=st at h1 h2⊢;unfold orS;split
  .rename_i d _;have h3:=ZQ7 s (s.Bc.length-1-j) st.1;have h4:=ZRA d.Id st.2;cases(orI s (s.Bc.length-1-j) st.1).1.getD (s.Bc.length-1-j) false&&(orI s (s.Bc.length-1-j) st.1).2 with
   |true=>exact⟨by simp only[cond_true];omega,by simp only[cond_true];omega⟩
   |false=>exact⟨by simp only[cond_false];omega,by simp only[cond_false];omega⟩
  .exact⟨h1,by omega⟩
def ogF(s:Sta)(st:List Bool×List Str)(i:Int):Fr:=[(2,stI s),(6,slO s.Bc.length),(7,.isl false false 1<|st.2.map encS),(8,.int .i64 i)]
def ZUU(s:Sta)(hs:StE s)(st:List Bool×List Str)(hM:st.1.length=s.Bc.length)(hO:st.2.length<=100000)(i:Nat)(hi:i<s.Bc.length):
 ∃fr',Zb rE c22L1b (ogF s st (i:Int)) (ZO3 st.1)=some (.normal,fr',ZO3 (orS s st i).1)/\Z2 [2,6,7,8] fr'=ogF s (orS s st i) ((i:Int)-1):=by
 obtain⟨d,hx⟩:∃x,s.Bc[i]?=some x:=⟨_,ZVH hi⟩;have hl:=hs.sizes.doors;have hg:=Z6 (f:=Ga.enc) hx;rw[show Ga.enc d=Zo d from rfl]at hg
 unfold Zo at hg;obtain⟨M,O⟩:=st;have hcS:∀K:List Str,Z4 (K.map encS)=true:=λK=>Zw (λt=>rfl) K
 have hbS:∀n(K:List Str),Zd n (K.map encS)=true:=λn K=>ZN _<|hcS K
 have hbB:∀n(M:List Bool),Zd n (M.map AV.bool)=true:=λn M=>ZN _<|Zw (λt=>rfl) M
 obtain⟨fr',L,g2,g6,g7,g8,g9⟩:=ZJK s hs (.isl false false 1<|O.map encS) (λn=>by simp only[go_sem,hbS]) i hi M hM
 have hp:=ZRt false O d.Id hO;have hI:=ZQ7 s i M;have hge:decide ((i:Int)>=0)=true:=decide_eq_true<|by omega
 have hw:IntKind.i64.wrap ((i:Int)-1)=(i:Int)-1:=YM (by omega)<|by omega
 have n1:((i:Int)).toNat=i:=rfl;have z1:=λes=>VT 0 s.Bc.length 0 1 (i:Int) s.Bc.length es ⟨by omega,by omega⟩
 unfold orS;rw[hx];dsimp only at hM hO⊢;generalize orI s i M=R at L g9 hI⊢;obtain⟨M2,f⟩:=R;dsimp only at L g9 hI⊢;have hM2:M2.length=s.Bc.length:=by rw[hI,hM]
 have hml:(M2.map AV.bool).length=s.Bc.length:=by rw[ZVA,hM2]
 obtain⟨b,hb⟩:∃b,M2[i]?=some b:=⟨_,ZVH<|by omega⟩
 have hmi:(M2.map AV.bool)[i]?=some (.bool b):=Z6 (f:=AV.bool) hb;have hgd:M2.getD i false=b:=by rw[ZWD,hb];rfl
 rw[hgd];unfold ZO3 slO at*;unfold ogF slO;cases b with
 |false=>
  refine⟨_,by simp only[go_sem,c22L1b,c22L0,hg,hge,hw,L,g2,g6,g7,g8,g9,n1,z1,hml,hM2,hmi,hbB,hbS,hcS,beq_self_eq_true,ZVA,ZVM,ZW6,ZVG];rfl,?_⟩
  simp only[go_sem]
 |true=>
  cases f with
  |false=>
   refine⟨_,by simp only[go_sem,c22L1b,c22L0,hg,hge,hw,L,g2,g6,g7,g8,g9,n1,z1,hml,hM2,hmi,hbB,hbS,hcS,beq_self_eq_true,ZVA,ZVM,ZW6,ZVL];rfl,?_⟩
   simp only[go_sem]
  |true=>
   refine⟨_,by simp only[go_sem,c22L1b,c22L0,hg,hge,hw,L,g2,g6,g7,g8,g9,n1,z1,hml,hM2,hmi,hp,hbB,hbS,hcS,beq_self_eq_true,ZVA,ZVM,ZW6,ZVJ];rfl,?_⟩
   simp only[go_sem]
def ZUV(s:Sta)(hs:StE s)(M:List Bool)(hM:M.length=s.Bc.length):
 ∃fr',Zg rE [2,6,7,8] c22L1b (ogF s (M,[])<|(s.Bc.length:Int)-1) (ZO3 M)=some (.exit 0,fr',ZO3 (orJ s M s.Bc.length).1)/\get fr' 7=.isl false false 1 ((orJ s M s.Bc.length).2.map encS):=by
 have hl:=hs.sizes.doors;have hcS:∀K:List Str,Z4 (K.map encS)=true:=λK=>Zw (λt=>rfl) K
 have hbS:∀n(K:List Str),Zd n (K.map encS)=true:=λn K=>ZN _<|hcS K
 have hend:∃fr',Zb rE c22L1b (ogF s (orJ s M s.Bc.length)<|(s.Bc.length:Int)-1-(s.Bc.length:Int)) (ZO3 (orJ s M s.Bc.length).1)=some (.exit 0,fr',ZO3 (orJ s M s.Bc.length).1)/\get fr' 7=.isl false false 1 ((orJ s M s.Bc.length).2.map encS):=by
  have e:(s.Bc.length:Int)-1-(s.Bc.length:Int)=-1:=by omega
  have hge:decide ((-1:Int)>=0)=false:=rfl;have hbB:∀n(M:List Bool),Zd n (M.map AV.bool)=true:=λn M=>ZN _<|Zw (λt=>rfl) M
  rw[e];unfold ogF ZO3 slO;refine⟨_,by simp only[go_sem,c22L1b,hge,hbB,hbS];rfl,?_⟩
  simp only[go_sem]
 obtain⟨fr',h1,h2⟩:=hend;have L:=Y8 (E:=rE) (live:=[2,6,7,8]) (b:=c22L1b) s.Bc.length (λj=>ogF s (orJ s M j)<|(s.Bc.length:Int)-1-(j:Int)) (λj=>ZO3 (orJ s M j).1) (λi=>rfl)
  (λj hj=>by
   obtain⟨b1,b2⟩:=ZRC s M j;have h:=ZUU s hs (orJ s M j) (by rw[b1,hM]) (by omega) (s.Bc.length-1-j)<|by omega
   rw[<-ZQ6]at h;have e1:((s.Bc.length-1-j:Nat):Int)=(s.Bc.length:Int)-1-(j:Int):=by omega
   have e2:(s.Bc.length:Int)-1-(j:Int)-1=(s.Bc.length:Int)-1-((j+1:Nat):Int):=by omega
   rw[e1,e2]at h;exact h)
  (e:=.exit 0) (fr:=fr') (h:=ZO3 (orJ s M s.Bc.length).1) h1 (by simp)
 have e0:(s.Bc.length:Int)-1-((0:Nat):Int)=(s.Bc.length:Int)-1:=by omega
 rw[e0]at L;exact⟨fr',L,h2⟩
def ZOY(s:Sta)(id:Str):List Str:=(orJ s (mkS s (List.replicate s.Bc.length false) id) s.Bc.length).2
def ZUW(s:Sta)(hs:StR s)(id:Str)(hp:Jx s=true)(h0:0<=Zn s id)(h1:Zn s id<s.Bc.length):pfn rE 22 [stA s,.str id]=some (.tup [.isl false false 1<|(ZOY s id).map encS,I 0]):=by
 have hz:=hs.toStE;have hl:=hz.sizes.doors;have hP:=ZOv s hs;rw[hp]at hP;have hf:=ZOs s hz.sizes id;have hn:decide (Zn s id<0)=false:=decide_eq_false<|by omega
 have hM:(mkS s (List.replicate s.Bc.length false) id).length=s.Bc.length:=by unfold mkS;rw[ZWG,ZWX]
 obtain⟨fr',L,g7⟩:=ZUV s hz _ hM;have hcS:∀K:List Str,Z4 (K.map encS)=true:=λK=>Zw (λt=>rfl) K
 have hbB:∀n(M:List Bool),Zd n (M.map AV.bool)=true:=λn M=>ZN _<|Zw (λt=>rfl) M
 have z2:=λes=>VT 0 s.Bc.length 0 1 (Zn s id) s.Bc.length es ⟨h0,h1⟩
 have hr:List.replicate s.Bc.length (AV.bool false)=(List.replicate s.Bc.length false).map AV.bool:=by rw[List.map_replicate]
 have hj:((List.replicate s.Bc.length false).map AV.bool)[(Zn s id).toNat]?=some (.bool false):=Z6 (f:=AV.bool)<|by rw[ZX4,if_pos<|by omega]
 have e:((List.replicate s.Bc.length false).map AV.bool).set (Zn s id).toNat (.bool true)=(mkS s (List.replicate s.Bc.length false) id).map AV.bool:=by unfold mkS;rw[ZXn]
 have hb0:∀n,Zd n (List.replicate s.Bc.length<|AV.bool false)=true:=λn=>by rw[hr];exact hbB n _
 rw[show(orJ s (mkS s (List.replicate s.Bc.length false) id) s.Bc.length).2=ZOY s id from rfl]at g7
 unfold ogF ZO3 slO at L;rw[ZWy]at L;generalize ZOY s id=R at g7⊢;generalize orJ s (mkS s (List.replicate s.Bc.length false) id) s.Bc.length=Q at L;generalize mkS s (List.replicate s.Bc.length false) id=M1 at L e hM;have hw:IntKind.i64.wrap ((s.Bc.length:Int)-1)=(s.Bc.length:Int)-1:=YM (by omega)<|by omega
 have hmk:=λ(fr:Fr)(hx:ev rE fr (.t 20)=.int .i64 s.Bc.length)(d:Option Nat)(r:List AOper)=>ZRy (E:=rE) (d:=d) (r:=r) (h:=[]) hx hx<|by omega
 rw[Z5 (f:=22) rfl rfl];simp only[go_sem,hmk,c22,c22L1,hP,hf,hn,hw,z2,hr,hj,e,hM,L,g7,hbB,hb0,hcS,ZVA,ZWX,beq_self_eq_true,ZVM,ZW6,ZVC]
def ZUX(s:Sta)(hs:StR s)(id:Str)(hp:Jx s=true)(h0:Zn s id<0):pfn rE 22 [stA s,.str id]=some (.tup [.isl false false 1 [],I 10]):=by
 have hP:=ZOv s hs;have hf:=ZOs s hs.toStE.sizes id;have hn:decide (Zn s id<0)=true:=decide_eq_true h0;rw[hp]at hP;rw[Z5 (f:=22) rfl rfl];simp only[go_sem,c22,hP,hf,hn,ZVC]
def ZUY(s:Sta)(hs:StR s)(id:Str)(hp:Jx s=false):pfn rE 22 [stA s,.str id]=some (.tup [.isl false false 1 [],I 1]):=by
 have hP:=ZOv s hs;rw[hp]at hP;rw[Z5 (f:=22) rfl rfl];simp only[go_sem,c22,hP,ZVE]
def ZdP{K:List Str}{x:Str}:K.any (Z3 x)=true↔x∈K:=by
 rw[List.any_eq_true];exact⟨λ⟨y,h1,h2⟩=>by rw[(Ky _ _).1 h2];exact h1,λh=>⟨x,h,(Ky _ _).2 rfl⟩⟩
def ZF6:∀(l m:List Str),l.Nodup->(∀x∈l,x∈m)->l.length<=m.length
 |[],m,_,_=>ZVO _
 |a::r,m,h,hs=>by
  rw[ZWW]at h;obtain⟨p,q,rfl⟩:=List.append_of_mem<|hs a ZWl;have:=ZF6 r (p++q) h.2 (λx hx=>by
   have h2:=hs x<|ZWC _ hx;have hne:x≠a:=λe=>h.1<|e▸hx
   simp only[ZW8,ZVX,hne,false_or]at h2⊢;exact h2)
  simp only[ZVQ,ZVU]at this⊢;omega
def ZFX{s:Sta}(hn:(s.Bc.map (·.Id)).Nodup){d e:Ga}(hd:d∈s.Bc)(he:e∈s.Bc)(h:d.Id=e.Id):d=e:=by
 obtain⟨i,hi⟩:=ZWE hd;obtain⟨j,hj⟩:=ZWE he;have h1:=Zi1 (f:=λx:Ga=>x.Id) hn hi
 have h2:=Zi1 (f:=λx:Ga=>x.Id) hn hj
 rw[h]at h1;have:i=j:=by rw[h1]at h2;omega
 rw[this,hj]at hi;exact(Option.some.inj hi).symm
inductive Reach(s:Sta):Str->Str->Prop
 |refl (x:Str):Reach s x x
 |step (x y z:Str) (d:Ga) (h:Reach s x y) (hd:d∈s.Bc) (hi:d.Id=y) (hz:z∈d.After.l):Reach s x z
def ZF7:∀(l K L:List Str),∃new,l.foldl wkS (K,L)=(K++new,L++new)/\(∀x∈new,x∈l)/\(∀x∈l,x∈K++new)/\(K.Nodup->(K++new).Nodup)
 |[],K,L=>⟨[],by simp⟩
 |a::l,K,L=>by
  rw[ZWI];cases c:K.any (Z3 a)with
  |true=>
   obtain⟨new,h1,h2,h3,h4⟩:=ZF7 l K L;refine⟨new,?_,λx hx=>ZWC _<|h2 x hx,λx hx=>?_,h4⟩
   .rw[show wkS (K,L) a=(K,L)by unfold wkS;simp only[c,cond_true],h1]
   .rcases ZVX.1 hx with rfl|hx
    .exact ZWR _<|ZdP.1 c
    .exact h3 x hx
  |false=>
   obtain⟨new,h1,h2,h3,h4⟩:=ZF7 l (K++[a])<|L++[a];have ha:a ∉ K:=λh=>by rw[ZdP.2 h]at c;cases c
   refine⟨a::new,?_,λx hx=>?_,λx hx=>?_,λhn=>?_⟩
   .have e:∀M:List Str,M++a::new=M++[a]++new:=λM=>by simp
    rw[e,e,show wkS (K,L) a=(K++[a],L++[a])by unfold wkS;simp only[c,cond_false],h1]
   .rcases ZVX.1 hx with rfl|hx
    .exact ZWl
    .exact ZWC _<|h2 x hx
   .rcases ZVX.1 hx with rfl|hx
    .simp
    .have:=h3 x hx;simpa using this
   .have e:K++a::new=K++[a]++new:=by simp
    rw[e];refine h4 ?_;rw[ZX6];exact⟨hn,by simp,λx hx y hy=>by simp only[ZW2]at hy;rw[hy];exact λh=>ha<|h▸hx⟩
def ZEc(Q:List Ga):List AV:=(Q.filter λd=>decide (d.Ld<0)).map λd=>.str d.Id
def ZEd(Q:List Ga):List AV:=(Q.filter λd=>!decide (d.Ld<0)&&d.After.l.isEmpty).map ZEB
def ZFY(d:Ga)(Q:List Ga):faD d (ZEc Q)=ZEc (Q++[d]):=by
 unfold faD ZEc;rw[ZYs,ZW7];cases c:decide (d.Ld<0)<;>simp[List.filter,c]
def ZFZ(d:Ga)(Q:List Ga):faE d (ZEd Q)=ZEd (Q++[d]):=by
 unfold faE ZEd;rw[ZYs,ZW7];cases c:(!decide (d.Ld<0)&&d.After.l.isEmpty)<;>simp only[List.filter,c,cond_true,cond_false,List.map,ZWS]
def ZHn{s:Sta}(hp:Prop' s){d:Ga}(hd:d∈s.Bc){x:Str}(hx:x∈d.After.l):∃e∈s.Bc,e.Id=x:=by
 obtain⟨i,hi⟩:=ZWE hd;have h1:=((Zd0 s i d).1 (hp.dr i d hi)).2.1 x hx;have h2:decide (Zn s x<0)=false:=decide_eq_false (by have:=of_decide_eq_false h1;omega)
 rw[ZEz]at h2;obtain⟨j,e,_,h4,h5⟩:=ZcU h2;exact⟨e,ZVN h4,h5⟩
def ZEF{s:Sta}(hp:Prop' s):(s.Bc.map (·.Id)).Nodup:=by
 have h:=hp.ids;unfold Qp at h;have h1:=(ZX6.1 h).2.1;have h2:=(ZX6.1 h1).2.1;have h3:=(ZX6.1 h2).2.1;exact(ZX6.1 h3).1
def ZG0(s:Sta)(hp:Prop' s)(hs:StE s)(hN:s.Bc.length<=500)(id0:Str):∀(n:Nat)(P:List Ga)(L:List Str),s.Bc.length<=P.length+n->(∀d∈P,d∈s.Bc)->(P.map (·.Id)++L).Nodup->(∀x∈L,∃d∈s.Bc,d.Id=x)->
 (∀x∈P.map (·.Id)++L,Reach s id0 x)->(∀d∈P,∀y∈d.After.l,y∈P.map (·.Id)++L)->
 ∃Q,Runs s (P.map (·.Id)++L) L (ZEc P) (ZEd P) (ZEc Q) (ZEd Q)/\(Q.map (·.Id)).Nodup/\(∀d∈Q,d∈s.Bc)/\(∀d∈Q,Reach s id0 d.Id)/\(∀d∈Q,∀y∈d.After.l,y∈Q.map (·.Id))/\(∀x∈P.map (·.Id)++L,x∈Q.map (·.Id))
 |n,P,[],_,hP,hn,_,hR,hA=>by
  rw[ZWS]at hn hR hA⊢;exact⟨P,Runs.stop _ _ _,hn,hP,λd hd=>hR _<|ZX0 hd,hA,λx hx=>hx⟩
 |n,P,x::r,hle,hP,hn,hL,hR,hA=>by
  have hsub:∀y∈P.map (·.Id)++x::r,y∈s.Bc.map (·.Id):=λy hy=>by
   rcases ZW8.1 hy with h|h
   .obtain⟨d,hd,rfl⟩:=ZWf.1 h;exact ZX0<|hP d hd
   .obtain⟨d,hd,rfl⟩:=hL y h;exact ZX0 hd
  have hlen:=ZF6 _ _ hn hsub;simp only[ZVQ,ZVA,ZVU]at hlen;obtain⟨d,hd,hid⟩:=hL x ZWl;obtain⟨k,hk⟩:=ZWE hd;have hf:pfn rE 12 [stA s,.str x]=some (I k):=by
   rw[find_ok s hs.sizes x,ZEz,<-hid,Zi1 (ZEF hp) hk]
  cases n with
  |zero=>omega
  |succ n=>
   obtain⟨new,w1,w2,w3,w4⟩:=ZF7 d.After.l (P.map (·.Id)++x::r)<|x::r;have eK:(P++[d]).map (·.Id)++(r++new)=P.map (·.Id)++x::r++new:=by simp[hid]
   obtain⟨Q,q1,q2,q3,q4,q5,q6⟩:=ZG0 s hp hs hN id0 n (P++[d]) (r++new) (by simp;omega)
    (λe he=>by
     rcases ZW8.1 he with h|h
     .exact hP e h
     .rw[ZW2.1 h];exact hd)
    (by rw[eK];exact w4 hn)
    (λy hy=>by
     rcases ZW8.1 hy with h|h
     .exact hL y<|ZWC _ h
     .exact ZHn hp hd<|w2 y h)
    (λy hy=>by
     rw[eK]at hy;rcases ZW8.1 hy with h|h
     .exact hR y h
     .exact Reach.step id0 x y d (hR x<|by simp) hd hid<|w2 y h)
    (λe he y hy=>by
     rw[eK];rcases ZW8.1 he with h|h
     .exact ZWR _<|hA e h y hy
     .rw[ZW2.1 h]at hy;exact w3 y hy)
   refine⟨Q,?_,q2,q3,q4,q5,λy hy=>q6 y<|by rw[eK];exact ZWR _ hy⟩
   refine Runs.step _ x r _ _ _ _ k d hk hf ?_ ?_ ?_ ?_
   .unfold ZEc;rw[ZVA];have:=ZXp (λd:Ga=>decide (d.Ld<0)) P;omega
   .unfold ZEd;rw[ZVA];have:=ZXp (λd:Ga=>!decide (d.Ld<0)&&d.After.l.isEmpty) P;omega
   .have:=(hs.doors d hd).after;simp only[ZVU];omega
   .rw[w1,ZFY,ZFZ,<-eK];exact q1
def ZHo(s:Sta)(hp:Prop' s)(hs:StE s)(hN:s.Bc.length<=500)(id:Str)(hid:decide (Zn s id<0)=false):
 ∃Q,Runs s [id] [id] [] [] (ZEc Q) (ZEd Q)/\(Q.map (·.Id)).Nodup/\(∀d∈Q,d∈s.Bc)/\(∀d∈Q,Reach s id d.Id)/\(∀x,Reach s id x->x∈Q.map (·.Id)):=by
 rw[ZEz]at hid;obtain⟨j,e,_,h4,h5⟩:=ZcU hid;obtain⟨Q,q1,q2,q3,q4,q5,q6⟩:=ZG0 s hp hs hN id s.Bc.length [] [id] (by simp) (λd hd=>by cases hd) (by simp) (λx hx=>⟨e,ZVN h4,by rw[ZW2.1 hx];exact h5⟩)
  (λx hx=>by rw[ZW2.1 hx];exact Reach.refl id) (λd hd=>by cases hd)
 refine⟨Q,q1,q2,q3,q4,λx hx=>?_⟩
 clear hid;induction hx with
 |refl=>exact q6 id<|by simp
 |step y z d h hd hi hz ih=>
  obtain⟨d',hd',he⟩:=ZWf.1 ih;rw[<-ZFX (ZEF hp) (q3 d' hd') hd (he.trans hi.symm)]at hz;exact q5 d' hd' z hz
def toL(x:Str):List UInt8:=x.data.toList
def ofL(l:List UInt8):Str:=⟨l.toArray⟩
def ZER(x:Str):ofL (toL x)=x:=by unfold ofL toL;simp
def ZG1(l:List UInt8):toL (ofL l)=l:=by unfold ofL toL;simp
def ZHp{x y:Str}(h:toL x=toL y):x=y:=by rw[<-ZER x,h,ZER]
def ZEi(l:List Str):List Str:=(WD<|l.map toL).map ofL
def ZHq(l:List Str):Yk (l.map encS)=(ZEi l).map encS:=by
 have e:l.map encS=(l.map toL).map Qd:=by
  rw[ZWY];exact ZXP λx _=>congrArg AV.str (ZER x).symm
 rw[e,D4];unfold ZEi;rw[ZWY];rfl
def ZES(l:List Str):(ZEi l).Perm l:=by
 have h:=(RS<|l.map toL).map ofL;rw[ZWY]at h;have e:l.map (ofL ∘ toL)=l:=by
  conv=>rhs;rw[<-List.map_id l]
  exact ZXP λx _=>ZER x
 rwa[e]at h
def ltS(a b:Str):Prop:=toL a<toL b
def ZHr(l:List Str)(hn:l.Nodup):(ZEi l).Pairwise ltS:=by
 have h1:=D8<|l.map toL;have h2:(ZEi l).Nodup:=(ZES l).nodup_iff.2 hn;unfold ZEi at h2⊢;rw[ZY8];rw[ZYq,ZY8]at h2;refine(h1.and h2).imp ?_;intro a b hab;unfold ltS;rw[ZG1,ZG1];refine Decidable.byContradiction λh=>hab.2 ?_
 rw[ZY3 (of_decide_eq_true hab.1)<|List.not_lt.1 h]
def ZHs(a b:Str):lexB (ZE4 a) (ZE4 b)=true↔ltS a b:=by
 unfold ZE4 ltS toL;rw[ZEM,decide_eq_true_iff]
def ZHt{a b:Str}(h:ZE4 a=ZE4 b):a=b:=by
 unfold ZE4 at h;apply ZHp;unfold toL;have:∀x y:List UInt8,(x.map λb=>(b.toNat:Int))=(y.map λb=>(b.toNat:Int))->x=y:=by
  intro x;induction x with
  |nil=>intro y h;cases y with
   |nil=>rfl
   |cons=>simp at h
  |cons a r ih=>intro y h;cases y with
   |nil=>simp at h
   |cons c t=>
    simp only[ZVV,List.cons.injEq]at h;have hc:a=c:=UInt8.toNat_inj.1<|by omega
    rw[ih t h.2,hc]
 exact this _ _ h
def gK(e:Endz):List Int×AV:=(ZE4 e.Id,e.enc)
def ZEy(x:Endz):List Endz->List Endz
 |[]=>[x]
 |y::r=>bif lexB (ZE4 x.Id) (ZE4 y.Id)then x::y::r else y::ZEy x r
def ZEj:List Endz->List Endz
 |[]=>[]
 |x::r=>ZEy x<|ZEj r
def ZG2(x:Endz):∀l:List Endz,ZvI (gK x) (l.map gK)=(ZEy x l).map gK
 |[]=>rfl
 |y::r=>by
  rw[ZVV];unfold ZvI ZEy;rw[show lexB (gK x).1 (gK y).1=lexB (ZE4 x.Id) (ZE4 y.Id)from rfl]
  cases lexB (ZE4 x.Id) (ZE4 y.Id)with
  |true=>rfl
  |false=>simp only[cond_false,ZG2 x r,ZVV]
def ZF8:∀l:List Endz,ZvN (l.map gK)=(ZEj l).map gK
 |[]=>rfl
 |x::r=>by
  rw[ZVV];unfold ZvN ZEj;rw[ZF8 r,ZG2]
def ZG3(x:Endz):∀l,(ZEy x l).Perm (x::l)
 |[]=>.refl _
 |y::r=>by
  unfold ZEy;cases lexB (ZE4 x.Id) (ZE4 y.Id)with
  |true=>exact .refl _
  |false=>exact((ZG3 x r).cons y).trans (.swap x y r)
def ZF9:∀l,(ZEj l).Perm l
 |[]=>.refl _
 |x::r=>(ZG3 x<|ZEj r).trans ((ZF9 r).cons x)
def ZG4:∀l:List Endz,keysOf ZEf (l.map Endz.enc)=some (l.map gK)
 |[]=>rfl
 |x::r=>by
  rw[ZVV,ZVV];unfold keysOf;rw[ZG4 r];rfl
def ZFa:∀l:List Endz,(l.map (·.Id)).Nodup->ZvJ (l.map gK)=true
 |[],_=>rfl
 |x::r,h=>by
  rw[ZVV,ZWW]at h;rw[ZVV];unfold ZvJ;rw[ZFa r h.2,ZVJ,ZVT];intro y hy;obtain⟨z,hz,rfl⟩:=ZWf.1 hy;have:((gK x).1==(gK z).1)=false:=by
   rw[beq_eq_false_iff_ne];intro e;exact h.1<|ZWf.2 ⟨z,hz,(ZHt e).symm⟩
  rw[this];rfl
def ZHu(l:List Endz)(h:(l.map (·.Id)).Nodup):(ZEj l).Pairwise λa b=>ltS a.Id b.Id:=by
 have h1:=ZwI (l.map gK)<|ZFa l h;rw[ZF8,ZY8]at h1;exact h1.imp λ{a b}hab=>(ZHs a.Id b.Id).1 hab
def ZET:∀l:List Str,Z4 (l.map encS)=true
 |[]=>rfl
 |x::r=>by rw[ZVV];unfold Z4;rw[ZET r];rfl
def ZEU:∀l:List Endz,Z4 (l.map Endz.enc)=true
 |[]=>rfl
 |x::r=>by rw[ZVV];unfold Z4;rw[ZEU r];rfl
def ZFb(l:List Str)(hl:l.length<=1000):ZE7 80 [ZEa 80] 1 (l.map encS)=some ((ZEi l).map encS):=by
 unfold ZE7 ZEa;have h1:(l.map encS).all WB=true:=by rw[ZVT];intro x hx;obtain⟨y,_,rfl⟩:=ZWf.1 hx;rfl
 have h2:Nat.ble (l.map encS).length 1000000=true:=ZWT<|by rw[ZVA];omega
 simp only[h1,h2,ZHq];rfl
def ZG5(l:List Endz)(hl:l.length<=1000)(hn:(l.map (·.Id)).Nodup):ZEe 82 3 ZEf [ZEa 82] 3 (l.map Endz.enc)=some ((ZEj l).map Endz.enc):=by
 unfold ZEe ZEa;have h1:(l.map Endz.enc).all Zwl=true:=by rw[ZVT];intro x hx;obtain⟨y,_,rfl⟩:=ZWf.1 hx;rfl
 have h2:Nat.ble (l.map Endz.enc).length 1000000=true:=ZWT<|by rw[ZVA];omega
 have h3:(l.map Endz.enc).all (fits 3)=true:=by rw[ZVT];intro x hx;obtain⟨y,_,rfl⟩:=ZWf.1 hx;rfl
 simp only[ZG4,h1,h2,h3,ZEU,ZFa l hn,ZF8,ZWY];rfl
def ZEk(d:Ga):Endz:=⟨d.Id,d.Why,d.Ld⟩
structure IsFate(s:Sta)(id:Str)(D:List Str)(E:List Endz):Prop where
 dn:D.Nodup
 ds:D.Pairwise ltS
 es:E.Pairwise λa b=>ltS a.Id b.Id
 dm:∀x,x∈D↔∃d∈s.Bc,d.Id=x/\d.Ld<0/\Reach s id d.Id
 em:∀e,e∈E↔∃d∈s.Bc,e=ZEk d/\¬d.Ld<0/\d.After.l=[]/\Reach s id d.Id
 dl:D.length<=500
 el:E.length<=500
def ZHv(s:Sta)(hp:Jx s=true)(hs:StE s)(hN:s.Bc.length<=500)(id:Str)(hid:decide (Zn s id<0)=false):∃D E,pfn rE 19 [stA s,.str id]=some (.tup [ftA false false D E,I 0])/\IsFate s id D E:=by
 have hp':=((Zdb s).1 hp).1;obtain⟨Q,q1,q2,q3,q4,q5⟩:=ZHo s hp' hs hN id hid;have hQ:Q.length<=500:=by
  have:=ZF6 (Q.map (·.Id)) (s.Bc.map (·.Id)) q2 (λx hx=>by obtain⟨d,hd,rfl⟩:=ZWf.1 hx;exact ZX0<|q3 d hd)
  simp only[ZVA]at this;omega
 have hin:∀d,d∈Q↔d∈s.Bc/\Reach s id d.Id:=λd=>⟨λh=>⟨q3 d h,q4 d h⟩,λ⟨h1,h2⟩=>by
  obtain⟨d',h3,h4⟩:=ZWf.1<|q5 _ h2
  rwa[<-ZFX (ZEF hp') (q3 d' h3) h1 h4]⟩
 have eD:ZEc Q=((Q.filter λd=>decide (d.Ld<0)).map (·.Id)).map encS:=by unfold ZEc;rw[ZWY];rfl
 have eE:ZEd Q=((Q.filter λd=>!decide (d.Ld<0)&&d.After.l.isEmpty).map ZEk).map Endz.enc:=by unfold ZEd;rw[ZWY];rfl
 have nD:((Q.filter λd=>decide (d.Ld<0)).map (·.Id)).Nodup:=q2.sublist<|(ZYt).map _
 have nE:(((Q.filter λd=>!decide (d.Ld<0)&&d.After.l.isEmpty).map ZEk).map (·.Id)).Nodup:=by
  rw[ZWY];exact q2.sublist<|(ZYt).map _
 have lD:((Q.filter λd=>decide (d.Ld<0)).map (·.Id)).length<=500:=by rw[ZVA];have:=ZXp (λd:Ga=>decide (d.Ld<0)) Q;omega
 have lE:((Q.filter λd=>!decide (d.Ld<0)&&d.After.l.isEmpty).map ZEk).length<=500:=by rw[ZVA];have:=ZXp (λd:Ga=>!decide (d.Ld<0)&&d.After.l.isEmpty) Q;omega
 have mD:∀x,x∈((Q.filter λd=>decide (d.Ld<0)).map (·.Id))↔∃d∈s.Bc,d.Id=x/\d.Ld<0/\Reach s id d.Id:=λx=>by
  rw[ZWf];constructor
  .rintro⟨d,hd,rfl⟩;rw[ZXe]at hd;exact⟨d,q3 d hd.1,rfl,of_decide_eq_true hd.2,q4 d hd.1⟩
  .rintro⟨d,h1,h2,h3,h4⟩;exact⟨d,ZXe.2 ⟨(hin d).2 ⟨h1,h4⟩,decide_eq_true h3⟩,h2⟩
 have mE:∀e,e∈((Q.filter λd=>!decide (d.Ld<0)&&d.After.l.isEmpty).map ZEk)↔∃d∈s.Bc,e=ZEk d/\¬d.Ld<0/\d.After.l=[]/\Reach s id d.Id:=λe=>by
  rw[ZWf];constructor
  .rintro⟨d,hd,rfl⟩;simp only[ZXe,ZVB,ZVW,decide_eq_false_iff_not,ZXl]at hd;exact⟨d,q3 d hd.1,rfl,hd.2.1,hd.2.2,q4 d hd.1⟩
  .rintro⟨d,h1,h2,h3,h4,h5⟩;refine⟨d,?_,h2.symm⟩;simp only[ZXe,ZVB,ZVW,decide_eq_false_iff_not,ZXl];exact⟨(hin d).2 ⟨h1,h5⟩,h3,h4⟩
 rw[eD,eE]at q1;generalize(Q.filter λd=>decide (d.Ld<0)).map (·.Id)=D0 at*
 generalize(Q.filter λd=>!decide (d.Ld<0)&&d.After.l.isEmpty).map ZEk=E0 at*
 have hc:pfn rE 76 [stA s,.str id]=some (I 0):=by
  rw[Zpq s hs id];unfold ZEb;rw[hp,hid];rfl
 have pD:=ZES D0;have pE:=ZF9 E0;refine⟨ZEi D0,ZEj E0,?_,pD.nodup_iff.2 nD,ZHr D0 nD,ZHu E0 nE,λx=>by rw[pD.mem_iff,mD],λe=>by rw[pE.mem_iff,mE],by rw[pD.length_eq];exact lD,by rw[pE.length_eq];exact lE⟩
 exact ZFW s id _ _ _ _ hc q1 (ZFb D0<|by omega) (ZG5 E0 (by omega) nE) (by simp[pD.length_eq]) (by simp[pE.length_eq]) (ZET _)<|ZEU _
def ZFi(s:Sta)(hs:StE s)(id:Str)(h:ZEb s id≠0):pfn rE 19 [stA s,.str id]=some (.tup [ftA false false [] [],I<|ZEb s id]):=by
 have hc:=Zpq s hs id;simp only[stA]at hc;have h0:(ZEb s id != 0)=true:=by rw[bne_iff_ne];exact h
 rw[Z5 (f:=19) rfl rfl];generalize ZEb s id=e at hc h0⊢;simp only[go_sem,c19,stA,hc,h0,ftA,List.map]
def ZJc{a b c:Str}(h1:ltS a b)(h2:ltS b c):ltS a c:=List.lt_trans h1 h2
def ZIV(a:Str):¬ltS a a:=List.lt_irrefl _
def ZIS{α:Type}{f:α->Str}:∀{a b:List α},a.Pairwise (λx y=>ltS (f x)<|f y)->b.Pairwise (λx y=>ltS (f x)<|f y)->(∀x,x∈a↔x∈b)->a=b
 |[],[],_,_,_=>rfl
 |[],y::s,_,_,h=>by have:=(h y).2 ZWl;cases this
 |x::r,[],_,_,h=>by have:=(h x).1 ZWl;cases this
 |x::r,y::s,ha,hb,h=>by
  rw[ZWp]at ha hb;have hxy:x=y:=by
   rcases ZVX.1 ((h x).1 ZWl)with e|hx
   .exact e
   .rcases ZVX.1 ((h y).2 ZWl)with e|hy
    .exact e.symm
    .exact absurd (ZJc (hb.1 x hx)<|ha.1 y hy)<|ZIV _
  subst hxy;rw[ZIS ha.2 hb.2<|λz=>?_]
  have hz:=h z;simp only[ZVX]at hz;constructor
  .intro hr;rcases hz.1 (.inr hr)with e|hs
   .subst e;exact absurd (ha.1 z hr)<|ZIV _
   .exact hs
  .intro hr;rcases hz.2 (.inr hr)with e|hs
   .subst e;exact absurd (hb.1 z hr)<|ZIV _
   .exact hs
def ZKB{s t:Sta}{id id':Str}{D D':List Str}{E E':List Endz}(h:IsFate s id D E)(h':IsFate t id' D' E')(hD:∀x,x∈D↔x∈D')(hE:∀e,e∈E↔e∈E'):D=D'/\E=E':=
 ⟨ZIS (f:=λx=>x) h.ds h'.ds hD,ZIS (f:=λe:Endz=>e.Id) h.es h'.es hE⟩
def ZP5(s:Sta)(x:Str):Zn s x=look (λd:Ga=>d.Id) s.Bc x:=rfl
def ZOC{s:Sta}{x:Str}(h:0<=Zn s x):∃(j:Nat)(d:Ga),Zn s x=(j:Int)/\s.Bc[j]?=some d/\d.Id=x:=
 ZcU (f:=λd:Ga=>d.Id) (by rw[<-ZP5];exact decide_eq_false<|by omega)
def ZP6{s:Sta}(hp:Prop' s){i:Nat}{d:Ga}(hd:s.Bc[i]?=some d):∀x∈d.After.l,(i:Int)<Zn s x:=λx hx=>by
 have h:=((Zd0 s i d).1 (hp.dr i d hd)).2.1 x hx;have:=of_decide_eq_false h;omega
def ZUZ{s:Sta}(hp:Prop' s):ZPD s:=λd hd x hx=>by
 obtain⟨i,hi⟩:=ZWE hd;have h1:=ZP6 hp hi x hx;obtain⟨j,e,h2,h3,_⟩:=ZOC (s:=s) (x:=x)<|by omega
 have:=Z7 h3;exact⟨by omega,by omega⟩
def ZQ8{s:Sta}{M:List Bool}{x:Str}(h:(Zn s x).toNat<M.length):(mkS s M x)[(Zn s x).toNat]?=some true:=by
 unfold mkS;rw[ZXz h]
def ZRD{s:Sta}{x:Str}:∀(l:List Str)(M:List Bool),x∈l->(Zn s x).toNat<M.length->(mkL s M l)[(Zn s x).toNat]?=some true
 |y::r,M,h,hl=>by
  show(mkL s (mkS s M y) r)[_]?=_
  rcases ZVX.1 h with rfl|h
  .exact ZPC s _ r _<|ZQ8 hl
  .exact ZRD r _ h<|by unfold mkS;rw[ZWG];exact hl
def ZRE{s:Sta}{k:Nat}:∀(l:List Str)(M:List Bool),(mkL s M l)[k]?=some true->M[k]?=some true\/∃x∈l,(Zn s x).toNat=k
 |[],M,h=>Or.inl h
 |y::r,M,h=>by
  rcases ZRE r (mkS s M y) h with h1|⟨x,h1,h2⟩
  .unfold mkS at h1;rw[ZXf]at h1;by_cases hk:(Zn s y).toNat=k
   .exact Or.inr ⟨y,by simp,hk⟩
   .rw[if_neg hk]at h1;exact Or.inl h1
  .exact Or.inr ⟨x,by simp[h1],h2⟩
def ZRF{s:Sta}{k:Nat}:∀(l:List Str)(M:List Bool),(∀x∈l,(k:Int)<Zn s x)->(mkL s M l)[k]?=M[k]?
 |[],M,_=>rfl
 |y::r,M,h=>by
  show(mkL s (mkS s M y) r)[k]?=_
  rw[ZRF r (mkS s M y)<|λx hx=>h x<|by simp[hx]]
  unfold mkS;have:=h y<|by simp
  rw[ZXq<|by omega]
def ZV0{s:Sta}(hp:Prop' s)(M:List Bool){i k:Nat}(h:k<=i):(cmS s M i)[k]?=M[k]?:=by
 unfold cmS;split
 .rename_i d hd;cases M.getD i false with
  |true=>exact ZRF _ _ λx hx=>by have:=ZP6 hp hd x hx;omega
  |false=>rfl
 .rfl
def ZV1{s:Sta}{M:List Bool}{i k:Nat}(h:M[k]?=some true):(cmS s M i)[k]?=some true:=by
 unfold cmS;split
 .cases M.getD i false with
  |true=>exact ZPC _ _ _ _ h
  |false=>exact h
 .exact h
def ZQ9{s:Sta}{M:List Bool}{k:Nat}:∀(j i:Nat),(cmK s M i)[k]?=some true->(cmK s M<|i+j)[k]?=some true
 |0,_,h=>h
 |j+1,i,h=>by rw[<-ZWv,ZP2];exact ZV1<|ZQ9 j i h
def ZRG{s:Sta}(hp:Prop' s)(M:List Bool){k:Nat}:∀(j i:Nat),k<=i->(cmK s M<|i+j)[k]?=(cmK s M i)[k]?
 |0,_,_=>rfl
 |j+1,i,h=>by rw[<-ZWv,ZP2,ZV0 hp _<|by omega];exact ZRG hp M j i h
def ZO6(s:Sta)(id:Str):List Bool:=mkS s (List.replicate s.Bc.length false) id
def ZQa(s:Sta)(id:Str):(ZO6 s id).length=s.Bc.length:=by unfold ZO6 mkS;rw[ZWG,ZWX]
def ZPf{s:Sta}(hp:Prop' s){id:Str}(h0:0<=Zn s id):∀(i k:Nat)(d:Ga),s.Bc[k]?=some d->(cmK s (ZO6 s id) i)[k]?=some true->Reach s id d.Id
 |0,k,d,hd,h=>by
  have h:(ZO6 s id)[k]?=some true:=h;unfold ZO6 mkS at h;rw[ZXf]at h;obtain⟨j,e,h2,h3,h4⟩:=ZOC h0;by_cases hk:(Zn s id).toNat=k
  .have:j=k:=by omega
   subst this;rw[h3]at hd;cases hd;rw[h4];exact Reach.refl _
  .rw[if_neg hk,ZX4]at h;split at h<;>cases h
 |i+1,k,d,hd,h=>by
  rw[ZP2]at h;unfold cmS at h;split at h
  .rename_i e he;cases hb:(cmK s (ZO6 s id) i).getD i false with
   |false=>rw[hb,cond_false]at h;exact ZPf hp h0 i k d hd h
   |true=>
    rw[hb,cond_true]at h;rcases ZRE _ _ h with h1|⟨x,h1,h2⟩
    .exact ZPf hp h0 i k d hd h1
    .have hi:(cmK s (ZO6 s id) i)[i]?=some true:=by
      have hl:=Z7 he;have hg:=ZVH (l:=cmK s (ZO6 s id) i) (i:=i)<|by rw[ZPe,ZQa];exact hl
      rw[ZWD,hg]at hb;rw[hg];exact congrArg some hb
     have hr:=ZPf hp h0 i i e he hi;have hgt:=ZP6 hp he x h1;obtain⟨j,f,g1,g2,g3⟩:=ZOC (s:=s) (x:=x)<|by omega
     have:j=k:=by omega
     subst this;rw[g2]at hd;cases hd;rw[g3];exact Reach.step _ _ _ e hr (ZVN he) rfl h1
  .exact ZPf hp h0 i k d hd h
def ZV2{s:Sta}(hp:Prop' s){id:Str}(h0:0<=Zn s id){z:Str}(h:Reach s id z):0<=Zn s z/\(ZO9 s id)[(Zn s z).toNat]?=some true:=by
 have hc:ZO9 s id=cmK s (ZO6 s id) s.Bc.length:=rfl;rw[hc];induction h with
 |refl=>
  obtain⟨j,e,h2,h3,h4⟩:=ZOC h0;have:=Z7 h3;refine⟨h0,?_⟩;have:=ZQ9 (s:=s) (M:=ZO6 s id) (k:=(Zn s id).toNat) s.Bc.length 0<|ZQ8<|by rw[ZWX];omega
  rwa[ZVM]at this
 |step y z d _ hd hi hz ih=>
  obtain⟨ih1,ih2⟩:=ih;obtain⟨i,hdi⟩:=ZWE hd;have hfi:Zn s y=(i:Int):=by
   rw[<-hi,ZP5];exact Zi1 (f:=λd:Ga=>d.Id) (ZEF hp) hdi
  have hgt:=ZP6 hp hdi z hz;refine⟨by omega,?_⟩
  rw[hfi,ZWJ]at ih2;have hil:=Z7 hdi;have e1:(cmK s (ZO6 s id) s.Bc.length)[i]?=(cmK s (ZO6 s id) i)[i]?:=by
   have:=ZRG hp (ZO6 s id) (k:=i) (s.Bc.length-i) i<|ZVF _
   rwa[show i+(s.Bc.length-i)=s.Bc.length by omega]at this
  rw[e1]at ih2;have hb:(cmK s (ZO6 s id) i).getD i false=true:=by rw[ZWD,ih2];rfl
  obtain⟨j,f,g1,g2,g3⟩:=ZOC (s:=s) (x:=z)<|by omega
  have hjl:=Z7 g2;have h1:(cmK s (ZO6 s id)<|i+1)[(Zn s z).toNat]?=some true:=by
   rw[ZP2];unfold cmS;rw[hdi];dsimp only;rw[hb,cond_true];exact ZRD _ _ hz<|by rw[ZPe,ZQa];omega
  have:=ZQ9 (s:=s) (M:=ZO6 s id) (k:=(Zn s z).toNat) (s.Bc.length-(i+1)) (i+1) h1
  rwa[show i+1+(s.Bc.length-(i+1))=s.Bc.length by omega]at this
def ZPE{s:Sta}(hp:Prop' s){id:Str}(h0:0<=Zn s id){k:Nat}{d:Ga}(hd:s.Bc[k]?=some d):(ZO9 s id).getD k false=true↔Reach s id d.Id:=by
 have hl:=Z7 hd;have hg:=ZVH (l:=ZO9 s id) (i:=k)<|by rw[ZQ2];exact hl
 constructor
 .intro h;rw[ZWD,hg]at h;exact ZPf hp h0 s.Bc.length k d hd<|by show(ZO9 s id)[k]?=_;rw[hg];exact congrArg some h
 .intro h;obtain⟨_,h2⟩:=ZV2 hp h0 h;have hf:Zn s d.Id=(k:Int):=by rw[ZP5];exact Zi1 (f:=λd:Ga=>d.Id) (ZEF hp) hd
  rw[hf,ZWJ]at h2;rw[ZWD,h2];rfl
instance (a b:Str):Decidable (ltS a b):=inferInstanceAs<|Decidable<|a.data.toList<b.data.toList
def ZPg(a b:Str):WW a b=decide (ltS a b):=by
 have h:=ZEA a b;rw[h];rfl
def ZRH(a b:Str):ltS a b\/a=b\/ltS b a:=by
 rcases Classical.em (ltS a b)with h|h
 .exact Or.inl h
 .rcases Classical.em (ltS b a)with h2|h2
  .exact Or.inr<|Or.inr h2
  .exact Or.inr<|Or.inl<|ZHp<|ZY3 (List.not_lt.1 h2)<|List.not_lt.1 h
def ZOo(x:Str):List Str->List Str
 |[]=>[x]
 |y::r=>bif WW y x then y::ZOo x r else x::(y::r).filter (λz=>!Z3 z x)
def ZRI(x:Str):∀(r o:List Str),r.foldl (ZOh x) (o,true)=(o++r.filter (λz=>!Z3 z x),true)
 |[],o=>by simp
 |y::r,o=>by
  rw[ZWI];have e:ZOh x (o,true) y=((bif Z3 y x then o else o++[y]),true):=by unfold ZOh;simp
  rw[e,ZRI x r];cases h:Z3 y x<;>simp[h]
def ZPF(x:Str)(st:List Str×Bool):List Str:=bif st.2 then st.1 else st.1++[x]
def ZRJ(x:Str):∀(r o:List Str),ZPF x (r.foldl (ZOh x) (o,false))=o++ZOo x r
 |[],o=>by simp[ZPF,ZOo]
 |y::r,o=>by
  rw[ZWI];unfold ZOo;cases h:WW y x with
  |true=>
   have hne:Z3 y x=false:=by
    cases c:Z3 y x with
    |false=>rfl
    |true=>
     rw[(Ky _ _).1 c,ZPg]at h;exact absurd (of_decide_eq_true h)<|ZIV x
   have e:ZOh x (o,false) y=(o++[y],false):=by unfold ZOh;rw[h,hne];rfl
   rw[e,ZRJ x r,cond_true];simp
  |false=>
   have e:ZOh x (o,false) y=((bif Z3 y x then o++[x]else(o++[x])++[y]),true):=by unfold ZOh;rw[h];rfl
   rw[e,ZRI,cond_false];unfold ZPF;cases c:Z3 y x<;>simp[c]
def ZRK(x:Str)(l:List Str):ZOw x l=ZOo x l:=by
 have h:=ZRJ x l [];rw[ZWb]at h;rw[<-h];unfold ZOw ZO7 ZPF;rw[ZWj]
def ZQb{x:Str}:∀{l:List Str}(z:Str),z∈ZOo x l↔z=x\/z∈l
 |[],z=>by simp[ZOo]
 |y::r,z=>by
  unfold ZOo;cases WW y x with
  |true=>rw[cond_true,ZVX,ZQb,ZVX];constructor<;>(rintro(h|h|h)<;>simp[h])
  |false=>
   rw[cond_false,ZVX,ZXe];constructor
   .rintro(h|⟨h,_⟩)
    .exact Or.inl h
    .exact Or.inr h
   .rintro(h|h)
    .exact Or.inl h
    .cases c:Z3 z x with
     |true=>exact Or.inl<|(Ky _ _).1 c
     |false=>exact Or.inr ⟨h,rfl⟩
def ZRL{x:Str}:∀{l:List Str},l.Pairwise ltS->(ZOo x l).Pairwise ltS
 |[],_=>by simp[ZOo]
 |y::r,h=>by
  rw[ZWp]at h;unfold ZOo;cases hc:WW y x with
  |true=>
   rw[ZPg]at hc;rw[cond_true,ZWp];refine⟨?_,ZRL h.2⟩;intro z hz;rcases(ZQb z).1 hz with rfl|hz
   .exact of_decide_eq_true hc
   .exact h.1 z hz
  |false=>
   rw[ZPg]at hc;have hn:=of_decide_eq_false hc;rw[cond_false,ZWp];have hp:(y::r).Pairwise ltS:=ZWp.2 h;refine⟨?_,hp.filter _⟩;intro z hz;obtain⟨h1,h2⟩:=ZXe.1 hz;have hne:z≠x:=λe=>by rw[e,ZOg]at h2;cases h2
   have hyz:y=z\/ltS y z:=by
    rcases ZVX.1 h1 with e|e
    .exact Or.inl e.symm
    .exact Or.inr<|h.1 z e
   rcases ZRH x y with g|g|g
   .rcases hyz with rfl|hyz
    .exact g
    .exact ZJc g hyz
   .subst g;rcases hyz with rfl|hyz
    .exact absurd rfl hne
    .exact hyz
   .exact absurd g hn
def ZRM{x:Str}{l:List Str}(h:l.Pairwise ltS):(ZOw x l).Pairwise ltS:=by rw[ZRK];exact ZRL h
def put_mem{x:Str}{l:List Str}(z:Str):z∈ZOw x l↔z=x\/z∈l:=by rw[ZRK];exact ZQb z
def ZRN{x:Endz}{l:List Endz}(z:Endz):z∈ZO8 x l↔z=x\/z∈l:=by
 unfold ZO8;rw[ZW8,ZVX];have h:z∈l↔z∈l.takeWhile (ltE x)\/z∈l.dropWhile (ltE x):=by
  rw[<-ZW8,ZYr]
 rw[h];constructor
 .rintro(h|h|h)
  .exact Or.inr<|Or.inl h
  .exact Or.inl h
  .exact Or.inr<|Or.inr h
 .rintro(h|h|h)
  .exact Or.inr<|Or.inl h
  .exact Or.inl h
  .exact Or.inr<|Or.inr h
def ZRO{x:Endz}:∀{l:List Endz},l.Pairwise (λa b=>ltS a.Id b.Id)->(∀y∈l,y.Id≠x.Id)->(ZO8 x l).Pairwise (λa b=>ltS a.Id b.Id)
 |[],_,_=>by simp[ZO8]
 |y::r,h,hn=>by
  rw[ZWp]at h;have ih:=ZRO (x:=x) h.2<|λz hz=>hn z<|by simp[hz]
  unfold ZO8 at ih⊢;rw[ZYa,List.dropWhile_cons];cases hc:ltE x y with
  |true=>
   unfold ltE at hc;rw[ZPg]at hc;simp only[if_true,ZW0];rw[ZWp];refine⟨?_,ih⟩;intro z hz;rcases(ZRN (x:=x) (l:=r) z).1 hz with rfl|hz
   .exact of_decide_eq_true hc
   .exact h.1 z hz
  |false=>
   unfold ltE at hc;rw[ZPg]at hc;have hnl:=of_decide_eq_false hc;simp only[ZVI,if_false,ZWb];rw[ZWp];have hxy:ltS x.Id y.Id:=by
    rcases ZRH x.Id y.Id with g|g|g
    .exact g
    .exact absurd g.symm<|hn y<|by simp
    .exact absurd g hnl
   refine⟨?_,ZWp.2 h⟩;intro z hz;rcases ZVX.1 hz with rfl|hz
   .exact hxy
   .exact ZJc hxy<|h.1 z hz
def ZRP{s:Sta}(hp:Prop' s){d:Ga}(hd:d∈s.Bc)(h:d.Ld<0):d.After.l=[]/\(d.Ld==-1)=true:=by
 obtain⟨i,hi⟩:=ZWE hd;have h1:=(Zd0 s i d).1 (hp.dr i d hi);have ho:=h1.1;unfold QM ZD at ho;simp only[ZVB,decide_eq_true_eq]at ho;have he:(d.Ld==-1)=true:=by rw[beq_iff_eq];omega
 have hb:=h1.2.2.1;unfold UC exD at hb;rw[he]at hb;simp only[ZXc,ZVD]at hb;have hn:=of_decide_eq_false hb.1.1.2;unfold Yf at hn;exact⟨List.eq_nil_of_length_eq_zero (by omega),he⟩
def ZRQ{s:Sta}(hp:Prop' s){d:Ga}(hd:d∈s.Bc):(d.Ld==-1)=true↔d.Ld<0:=
 ⟨λh=>by have:=eq_of_beq h;omega,λh=>(ZRP hp hd h).2⟩
structure FaI(s:Sta)(M:List Bool)(i:Nat)(st:List Str×List Endz):Prop where
 ds:st.1.Pairwise ltS
 es:st.2.Pairwise λa b=>ltS a.Id b.Id
 dm:∀x,x∈st.1↔∃k d,k<i/\s.Bc[k]?=some d/\M.getD k false=true/\d.After.l=[]/\d.Ld<0/\d.Id=x
 em:∀e,e∈st.2↔∃k d,k<i/\s.Bc[k]?=some d/\M.getD k false=true/\d.After.l=[]/\¬d.Ld<0/\ZEk d=e
def ZRR{s:Sta}(hp:Prop' s)(M:List Bool):∀i,i<=s.Bc.length->FaI s M i (faK s M i)
 |0,_=>⟨List.Pairwise.nil,List.Pairwise.nil,λx=>⟨λh=>(by cases h),λ⟨k,_,h,_⟩=>(by omega)⟩,λe=>⟨λh=>(by cases h),λ⟨k,_,h,_⟩=>(by omega)⟩⟩
 |i+1,hi=>by
  have ih:=ZRR hp M i<|by omega
  obtain⟨d,hd⟩:∃x,s.Bc[i]?=some x:=⟨_,ZVH<|by omega⟩
  have hm:=ZVN hd;rw[ZQ3];generalize faK s M i=st at ih⊢;unfold faS;rw[hd];dsimp only;have ne:decide (Yf d>0)=true↔d.After.l≠[]:=by
   unfold Yf;rw[decide_eq_true_eq];constructor
   .intro h e;rw[e]at h;simp at h
   .intro h;have:=List.length_pos_iff.2 h;omega
  have keep:∀{P:Ga->Prop},(¬(M.getD i false=true/\P d))->((∃k e,k<i+1/\s.Bc[k]?=some e/\M.getD k false=true/\P e)↔(∃k e,k<i/\s.Bc[k]?=some e/\M.getD k false=true/\P e)):=λ{P}h=>by
   constructor
   .rintro⟨k,e,h1,h2,h3,h4⟩;by_cases hk:k=i
    .subst hk;rw[hd]at h2;cases h2;exact absurd ⟨h3,h4⟩ h
    .exact⟨k,e,by omega,h2,h3,h4⟩
   .rintro⟨k,e,h1,h2,h3,h4⟩;exact⟨k,e,by omega,h2,h3,h4⟩
  have more:∀{P:Ga->Prop},M.getD i false=true->P d->∀Q:Prop,(Q↔∃k e,k<i/\s.Bc[k]?=some e/\M.getD k false=true/\P e)->True:=λ_ _ _ _=>trivial
  clear more;cases hc:!M.getD i false||decide (Yf d>0)with
  |true=>
   rw[cond_true];have hno:¬(M.getD i false=true/\d.After.l=[]):=by
    rintro⟨h1,h2⟩;rw[h1,ZVC,ZVS,ne]at hc;exact hc h2
   refine⟨ih.ds,ih.es,λx=>?_,λe=>?_⟩
   .rw[ih.dm x,keep (P:=λe=>e.After.l=[]/\e.Ld<0/\e.Id=x) λh=>hno ⟨h.1,h.2.1⟩]
   .rw[ih.em e,keep (P:=λy=>y.After.l=[]/\¬y.Ld<0/\ZEk y=e) λh=>hno ⟨h.1,h.2.1⟩]
  |false=>
   rw[cond_false];simp only[ZXc,ZX5]at hc;obtain⟨hM,hA⟩:=hc;have hA':d.After.l=[]:=by
    by_cases h:d.After.l=[]
    .exact h
    .rw[ne.2 h]at hA;cases hA
   cases he:d.Ld==-1 with
   |true=>
    have hlt:=(ZRQ hp hm).1 he;rw[cond_true];refine⟨ZRM ih.ds,ih.es,λx=>?_,λe=>?_⟩
    .rw[put_mem,ih.dm x];constructor
     .rintro(rfl|⟨k,e,h1,h2⟩)
      .exact⟨i,d,by omega,hd,hM,hA',hlt,rfl⟩
      .exact⟨k,e,by omega,h2⟩
     .rintro⟨k,e,h1,h2,h3,h4,h5,h6⟩;by_cases hk:k=i
      .subst hk;rw[hd]at h2;cases h2;exact Or.inl h6.symm
      .exact Or.inr ⟨k,e,by omega,h2,h3,h4,h5,h6⟩
    .rw[ih.em e,keep (P:=λy=>y.After.l=[]/\¬y.Ld<0/\ZEk y=e) λh=>h.2.2.1 hlt]
   |false=>
    have hlt:¬d.Ld<0:=λh=>by rw[(ZRQ hp hm).2 h]at he;cases he
    rw[cond_false];have hnew:∀y∈st.2,y.Id≠d.Id:=λy hy hid=>by
     obtain⟨k,e,h1,h2,_,_,_,h6⟩:=(ih.em y).1 hy;have h7:e.Id=d.Id:=by rw[<-hid,<-h6];rfl
     have h8:=Zi1 (f:=λd:Ga=>d.Id) (ZEF hp) h2
     have h9:=Zi1 (f:=λd:Ga=>d.Id) (ZEF hp) hd
     rw[h7,h9]at h8;omega
    refine⟨ih.ds,ZRO ih.es hnew,λx=>?_,λe=>?_⟩
    .rw[ih.dm x,keep (P:=λy=>y.After.l=[]/\y.Ld<0/\y.Id=x) λh=>hlt h.2.2.1]
    .rw[ZRN,ih.em e];constructor
     .rintro(rfl|⟨k,f,h1,h2⟩)
      .exact⟨i,d,by omega,hd,hM,hA',hlt,rfl⟩
      .exact⟨k,f,by omega,h2⟩
     .rintro⟨k,f,h1,h2,h3,h4,h5,h6⟩;by_cases hk:k=i
      .subst hk;rw[hd]at h2;cases h2;exact Or.inl h6.symm
      .exact Or.inr ⟨k,f,by omega,h2,h3,h4,h5,h6⟩
def ZV3{s:Sta}(hp:Prop' s)(hN:s.Bc.length<=500){id:Str}(h0:0<=Zn s id):IsFate s id (ZOX s id).1 (ZOX s id).2:=by
 have h:=ZRR hp (ZO9 s id) s.Bc.length<|ZVF _;have hl:=ZQ4 s (ZO9 s id) s.Bc.length;rw[show faK s (ZO9 s id) s.Bc.length=ZOX s id from rfl]at h hl
 refine⟨h.ds.imp λ{a b}hab e=>by subst e;exact ZIV a hab,h.ds,h.es,λx=>?_,λe=>?_,by omega,by omega⟩
 .rw[h.dm x];constructor
  .rintro⟨k,d,_,h2,h3,h4,h5,h6⟩;exact⟨d,ZVN h2,h6,h5,(ZPE hp h0 h2).1 h3⟩
  .rintro⟨d,h1,h2,h3,h4⟩;obtain⟨k,hk⟩:=ZWE h1;exact⟨k,d,Z7 hk,hk,(ZPE hp h0 hk).2 h4,(ZRP hp h1 h3).1,h3,h2⟩
 .rw[h.em e];constructor
  .rintro⟨k,d,_,h2,h3,h4,h5,h6⟩;exact⟨d,ZVN h2,h6.symm,h5,h4,(ZPE hp h0 h2).1 h3⟩
  .rintro⟨d,h1,h2,h3,h4,h5⟩;obtain⟨k,hk⟩:=ZWE h1;exact⟨k,d,Z7 hk,hk,(ZPE hp h0 hk).2 h5,h4,h3,h2.symm⟩
def ZPG{s:Sta}{k i:Nat}{a b:Ga}(ha:s.Bc[k]?=some a)(hb:s.Bc[i]?=some b):inA s k i=true↔b.Id∈a.After.l:=by
 unfold inA;rw[ha,hb];dsimp only;rw[List.any_eq_true];exact⟨λ⟨y,h1,h2⟩=>by rw[<-(Ky _ _).1 h2];exact h1,λh=>⟨b.Id,h,ZOg _⟩⟩
def ZQc(s:Sta)(i:Nat)(M:List Bool):∀k,(orK s i M k).2=true↔∀j,j<k->inA s j i=false
 |0=>⟨λ_ j h=>(by omega),λ_=>rfl⟩
 |k+1=>by
  rw[ZP3];unfold orF;cases h:inA s k i with
  |true=>
   rw[cond_true];exact⟨λh2=>(by cases h2),λh2=>(by rw[h2 k<|by omega]at h;cases h)⟩
  |false=>
   rw[cond_false,ZQc s i M k];exact⟨λh2 j hj=>by
    by_cases e:j=k
    .rw[e];exact h
    .exact h2 j (by omega),λh2 j hj=>h2 j<|by omega⟩
def ZQd(s:Sta)(i:Nat)(M:List Bool)(q:Nat):∀k,(orK s i M k).1[q]?=some true->M[q]?=some true\/(q<k/\inA s q i=true)
 |0,h=>Or.inl h
 |k+1,h=>by
  rw[ZP3]at h;unfold orF at h;cases hc:inA s k i with
  |true=>
   rw[hc,cond_true]at h;dsimp only at h;rw[ZXf]at h;by_cases e:k=q
   .subst e;exact Or.inr ⟨by omega,hc⟩
   .rw[if_neg e]at h;rcases ZQd s i M q k h with h|⟨h1,h2⟩
    .exact Or.inl h
    .exact Or.inr ⟨by omega,h2⟩
  |false=>
   rw[hc,cond_false]at h;rcases ZQd s i M q k h with h|⟨h1,h2⟩
   .exact Or.inl h
   .exact Or.inr ⟨by omega,h2⟩
def ZPH(s:Sta)(i:Nat)(M:List Bool)(q:Nat)(hq:q<M.length):∀k,(M[q]?=some true\/(q<k/\inA s q i=true))->(orK s i M k).1[q]?=some true
 |0,h=>by
  rcases h with h|⟨h,_⟩
  .exact h
  .omega
 |k+1,h=>by
  rw[ZP3];unfold orF;have hlen:=ZP4 s i M k;cases hc:inA s k i with
  |true=>
   rw[cond_true];dsimp only;by_cases e:k=q
   .subst e;rw[ZXz<|by omega]
   .rw[ZXq e];apply ZPH s i M q hq k;rcases h with h|⟨h1,h2⟩
    .exact Or.inl h
    .exact Or.inr ⟨by omega,h2⟩
  |false=>
   rw[cond_false];apply ZPH s i M q hq k;rcases h with h|⟨h1,h2⟩
   .exact Or.inl h
   .refine Or.inr ⟨?_,h2⟩;by_cases e:q=k
    .subst e;rw[hc]at h2;cases h2
    .omega
def ZPh{M:List Bool}{i:Nat}:M.getD i false=true↔M[i]?=some true:=by
 rw[ZWD];cases h:M[i]? with
 |none=>simp
 |some b=>simp
def ZV4(s:Sta)(i:Nat)(M:List Bool)(q:Nat)(hq:q<M.length):(orI s i M).1[q]?=some true↔M[q]?=some true\/(M[i]?=some true/\q<i/\inA s q i=true):=by
 unfold orI;cases h:M.getD i false with
 |true=>
  have hi:=ZPh.1 h;rw[cond_true];constructor
  .intro h2;rcases ZQd s i M q i h2 with h3|⟨h3,h4⟩
   .exact Or.inl h3
   .exact Or.inr ⟨hi,h3,h4⟩
  .rintro(h2|⟨_,h3,h4⟩)
   .exact ZPH s i M q hq i<|Or.inl h2
   .exact ZPH s i M q hq i<|Or.inr ⟨h3,h4⟩
 |false=>
  rw[cond_false];constructor
  .exact λh2=>Or.inl h2
  .rintro(h2|⟨h3,_⟩)
   .exact h2
   .rw[ZPh.2 h3]at h;cases h
def ZV5(s:Sta)(st:List Bool×List Str)(i:Nat)(hi:i<s.Bc.length):(orS s st i).1=(orI s i st.1).1:=by
 obtain⟨d,hx⟩:∃x,s.Bc[i]?=some x:=⟨_,ZVH hi⟩;unfold orS;rw[hx];dsimp only;cases(orI s i st.1).1.getD i false&&(orI s i st.1).2<;>rfl
structure OrI(s:Sta)(id:Str)(j:Nat)(st:List Bool×List Str):Prop where
 len:st.1.length=s.Bc.length
 sound:∀(k:Nat)(d:Ga),s.Bc[k]?=some d->st.1[k]?=some true->Reach s d.Id id
 here:st.1[(Zn s id).toNat]?=some true
 back:∀i,s.Bc.length-j<=i->i<s.Bc.length->st.1[i]?=some true->∀k,k<i->inA s k i=true->st.1[k]?=some true
 ds:st.2.Pairwise ltS
 dm:∀x,x∈st.2↔∃(i:Nat)(d:Ga),s.Bc.length-j<=i/\s.Bc[i]?=some d/\st.1[i]?=some true/\(∀k,k<i->inA s k i=false)/\d.Id=x
def ZRS{s:Sta}(hp:Prop' s){id:Str}(h0:0<=Zn s id):∀j,j<=s.Bc.length->OrI s id j (orJ s (ZO6 s id) j)
 |0,_=>by
  obtain⟨q,e,h2,h3,h4⟩:=ZOC h0;have hq:=Z7 h3;refine⟨ZQa s id,?_,ZQ8 (by rw[ZWX];omega),λi h1 h2=>(by omega),List.Pairwise.nil,λx=>⟨λh=>(by cases h),?_⟩⟩
  .intro k d hd h;have h:(ZO6 s id)[k]?=some true:=h;unfold ZO6 mkS at h;rw[ZXf]at h;by_cases hk:(Zn s id).toNat=k
   .have:q=k:=by omega
    subst this;rw[h3]at hd;cases hd;rw[h4];exact Reach.refl _
   .rw[if_neg hk,ZX4]at h;split at h<;>cases h
  .rintro⟨i,d,h1,h2,_⟩;have:=Z7 h2;omega
 |j+1,hj=>by
  have ih:=ZRS hp h0 j<|by omega
  rw[ZQ6];generalize orJ s (ZO6 s id) j=st at ih⊢;have hi:s.Bc.length-1-j<s.Bc.length:=by omega
  generalize hi0:s.Bc.length-1-j=i at hi⊢;have hij:s.Bc.length-(j+1)=i:=by omega
  have hij2:s.Bc.length-j=i+1:=by omega
  obtain⟨d,hd⟩:∃x,s.Bc[i]?=some x:=⟨_,ZVH hi⟩;have hfst:=ZV5 s st i hi;have hmk:∀q,q<s.Bc.length->((orS s st i).1[q]?=some true↔st.1[q]?=some true\/(st.1[i]?=some true/\q<i/\inA s q i=true)):=λq hq=>by
   rw[hfst];exact ZV4 s i st.1 q<|by rw[ih.len];exact hq
  have hsame:∀q,q<s.Bc.length->i<=q->((orS s st i).1[q]?=some true↔st.1[q]?=some true):=λq hq hle=>by
   rw[hmk q hq];exact⟨λh=>by rcases h with h|⟨_,h,_⟩;exact h;omega,Or.inl⟩
  refine⟨by rw[hfst,ZQ7,ih.len],?_,?_,?_,?_,?_⟩
  .intro k e he h;have hk:=Z7 he;rcases(hmk k hk).1 h with h|⟨h1,_,h3⟩
   .exact ih.sound k e he h
   .have hr:=ih.sound i d hd h1;have hz:=(ZPG he hd).1 h3;have key:∀z,Reach s d.Id z->Reach s e.Id z:=λz hz2=>by
     induction hz2 with
     |refl=>exact Reach.step _ _ _ e (Reach.refl _) (ZVN he) rfl hz
     |step y z f _ hf hi2 hz2 ih2=>exact Reach.step _ _ _ f ih2 hf hi2 hz2
    exact key _ hr
  .obtain⟨q,e,g2,g3,_⟩:=ZOC h0;have hq:=Z7 g3;exact(hmk _<|by omega).2 (Or.inl ih.here)
  .intro q h1 h2 h3 k hk hA;by_cases e:q=i
   .subst e;have h4:=(hsame q h2<|ZVF _).1 h3;exact(hmk k<|by omega).2 (Or.inr ⟨h4,hk,hA⟩)
   .have h4:=(hsame q h2<|by omega).1 h3
    exact(hmk k<|by omega).2 (Or.inl<|ih.back q (by omega) h2 h4 k hk hA)
  .unfold orS;rw[hd];dsimp only;cases(orI s i st.1).1.getD i false&&(orI s i st.1).2 with
   |true=>exact ZRM ih.ds
   |false=>exact ih.ds
  .intro x;have hcond:((orI s i st.1).1.getD i false&&(orI s i st.1).2)=true↔st.1[i]?=some true/\∀k,k<i->inA s k i=false:=by
    rw[ZVB,ZPh,<-hfst,hsame i hi<|ZVF _];constructor
    .rintro⟨h1,h2⟩;refine⟨h1,?_⟩;unfold orI at h2;rw[ZPh.2 h1,cond_true]at h2;exact(ZQc s i st.1 i).1 h2
    .rintro⟨h1,h2⟩;refine⟨h1,?_⟩;unfold orI;rw[ZPh.2 h1,cond_true];exact(ZQc s i st.1 i).2 h2
   have hold:(∃(q:Nat)(e:Ga),s.Bc.length-j<=q/\s.Bc[q]?=some e/\st.1[q]?=some true/\(∀k,k<q->inA s k q=false)/\e.Id=x)↔
    (∃(q:Nat)(e:Ga),s.Bc.length-j<=q/\s.Bc[q]?=some e/\(orS s st i).1[q]?=some true/\(∀k,k<q->inA s k q=false)/\e.Id=x):=by
    constructor
    .rintro⟨q,e,h1,h2,h3,h4⟩;exact⟨q,e,h1,h2,(hsame q (Z7 h2)<|by omega).2 h3,h4⟩
    .rintro⟨q,e,h1,h2,h3,h4⟩;exact⟨q,e,h1,h2,(hsame q (Z7 h2)<|by omega).1 h3,h4⟩
   have hs2:x∈(orS s st i).2↔(((orI s i st.1).1.getD i false&&(orI s i st.1).2)=true/\x=d.Id)\/x∈st.2:=by
    unfold orS;rw[hd];dsimp only;cases(orI s i st.1).1.getD i false&&(orI s i st.1).2 with
    |true=>rw[cond_true];dsimp only;rw[put_mem];simp
    |false=>rw[cond_false];simp
   rw[hs2,ih.dm x,hold,hcond];constructor
   .rintro(⟨⟨h1,h2⟩,h3⟩|⟨q,e,h1,h2⟩)
    .exact⟨i,d,Nat.le_of_eq hij,hd,(hsame i hi<|ZVF _).2 h1,h2,h3.symm⟩
    .exact⟨q,e,by rw[hij];rw[hij2]at h1;exact Nat.le_of_succ_le h1,h2⟩
   .rintro⟨q,e,h1,h2,h3,h4,h5⟩;by_cases hq:q=i
    .subst hq;rw[hd]at h2;cases h2;exact Or.inl ⟨⟨(hsame q hi<|ZVF _).1 h3,h4⟩,h5.symm⟩
    .exact Or.inr ⟨q,e,by rw[hij2];rw[hij]at h1;exact Nat.lt_of_le_of_ne h1<|Ne.symm hq,h2,h3,h4,h5⟩
def ZV6{s:Sta}(hp:Prop' s){id:Str}{st:List Bool×List Str}(h:OrI s id s.Bc.length st){x z:Str}(hr:Reach s x z):0<=Zn s z->st.1[(Zn s z).toNat]?=some true->0<=Zn s x/\st.1[(Zn s x).toNat]?=some true:=by
 induction hr with
 |refl=>exact λh0 h1=>⟨h0,h1⟩
 |step y z d _ hd hi hz ih=>
  intro h0 h1;obtain⟨k,hdk⟩:=ZWE hd;have hk:Zn s y=(k:Int):=by rw[<-hi,ZP5];exact Zi1 (f:=λd:Ga=>d.Id) (ZEF hp) hdk
  have hgt:=ZP6 hp hdk z hz;obtain⟨j,e,g1,g2,g3⟩:=ZOC h0;rw[g1,ZWJ]at h1;have hA:inA s k j=true:=(ZPG hdk g2).2 (by rw[g3];exact hz)
  have hm:=h.back j (by omega) (Z7 g2) h1 k (by omega) hA
  exact ih (by omega)<|by rw[hk,ZWJ];exact hm
def ZV7{s:Sta}(hp:Prop' s){id:Str}(h0:0<=Zn s id):(ZOY s id).Pairwise ltS/\∀x,x∈ZOY s id↔∃d∈s.Bc,d.Id=x/\(∀c∈s.Bc,x ∉ c.After.l)/\Reach s x id:=by
 have h:=ZRS hp h0 s.Bc.length<|ZVF _;have e:ZOY s id=(orJ s (ZO6 s id) s.Bc.length).2:=rfl;rw[e];generalize orJ s (ZO6 s id) s.Bc.length=st at h⊢;refine⟨h.ds,λx=>?_⟩
 rw[h.dm x];constructor
 .rintro⟨i,d,_,h2,h3,h4,h5⟩;refine⟨d,ZVN h2,h5,?_,by rw[<-h5];exact h.sound i d h2 h3⟩
  intro c hc hx;obtain⟨k,hk⟩:=ZWE hc;have hgt:=ZP6 hp hk x hx;have hf:Zn s x=(i:Int):=by rw[<-h5,ZP5];exact Zi1 (f:=λd:Ga=>d.Id) (ZEF hp) h2
  have h6:=h4 k<|by omega
  rw[(ZPG hk h2).2 (by rw[h5];exact hx)]at h6
  cases h6
 .rintro⟨d,h1,h2,h3,h4⟩;obtain⟨i,hi⟩:=ZWE h1;have hf:Zn s x=(i:Int):=by rw[<-h2,ZP5];exact Zi1 (f:=λd:Ga=>d.Id) (ZEF hp) hi
  obtain⟨_,hm⟩:=ZV6 hp h h4 h0 h.here;rw[hf,ZWJ]at hm;refine⟨i,d,by omega,hi,hm,?_,h2⟩
  intro k hk;cases hA:inA s k i with
  |false=>rfl
  |true=>
   obtain⟨c,hc⟩:∃c,s.Bc[k]?=some c:=⟨_,ZVH (by have:=Z7 hi;omega)⟩
   have:=(ZPG hc hi).1 hA;rw[h2]at this;exact absurd this<|h3 c<|ZVN hc
def ZJC(x:Str):Z3 x x=true:=ZJB x
def ZEW(x:Str):∀(K:List Str)(i:Nat),ZW false [2] (.str x) (K.map encS) i=some ((K.findIdx?<|Z3 x).map (· + i))
 |[],i=>rfl
 |y::r,i=>by
  rw[ZVV];unfold encS;rw[ZW,Z1Y];have h:=ZEW x r<|i+1;unfold encS at h;simp only[h,ZYu];cases Z3 x y with
  |true=>simp
  |false=>
   cases List.findIdx? (Z3 x) r<;>simp
   omega
def ZE1(bs:List Nat)(V:List<|List Str):List AV:=List.zipWith (λb A=>AV.sl (b+2) A.length 0 A.length false) bs V
def bH(K:List Str)(V:List<|List Str)(bs:List Nat)(X:List AObj):Hp:=.map (K.map encS) (ZE1 bs V)::.row 1 [.mp 0]::X
structure HB(K:List Str)(V:List<|List Str)(bs:List Nat)(X:List AObj):Prop where
 lk:V.length=K.length
 lb:bs.length=K.length
 nd:bs.Nodup
 row:∀(j b:Nat)(A:List Str),bs[j]?=some b->V[j]?=some A->X[b]?=some (.row 1<|A.map encS)
 cl:TC' X
def ZFf{bs:List Nat}{V:List (List Str)}{j b:Nat}{A:List Str}(h1:bs[j]?=some b)(h2:V[j]?=some A):(ZE1 bs V)[j]?=some (.sl (b+2) A.length 0 A.length false):=by
 unfold ZE1;rw[List.getElem?_zipWith,h1,h2]
def ZG9:∀{n:Nat}{l:List AV}{j:Nat}{v:AV},Zd n l=true->l[j]?=some v->bel n v=true
 |n,[],j,v,_,h=>by simp at h
 |n,x::r,0,v,h,hj=>by
  simp only[Zd,ZVB]at h;simp only[ZW4,Option.some.injEq]at hj;rw[<-hj];exact h.1
 |n,x::r,j+1,v,h,hj=>by
  simp only[Zd,ZVB]at h;rw[ZWm]at hj;exact ZG9 h.2 hj
def HB.at{K:List Str}{V:List (List Str)}{bs:List Nat}{X:List AObj}(H:HB K V bs X){j:Nat}(hj:j<K.length):∃b A,bs[j]?=some b/\V[j]?=some A/\X[b]?=some (.row 1<|A.map encS)/\b<X.length:=by
 have h1:bs[j]?=some (bs[j]'(by rw[H.lb];exact hj)):=ZVH _
 have h2:V[j]?=some (V[j]'(by rw[H.lk];exact hj)):=ZVH _
 have h3:=H.row j _ _ h1 h2;exact⟨_,_,h1,h2,h3,(ZVK.1 h3).1⟩
def ZFg{K:List Str}{V:List (List Str)}{bs:List Nat}{X:List AObj}(H:HB K V bs X)(n:Nat)(fr:Fr):
 ∃X',Xq (n+2) fr (bH K V bs X)=bH K V bs X'/\HB K V bs X'/\(∀i,i<n->X'[i]?=X[i]?)/\X'.length<=X.length:=by
 unfold Xq;cases c:Zd (n+2) (fr.map (·.2))&&X4 (n+2) ((bH K V bs X).take (n+2))with
 |false=>exact⟨X,rfl,H,λi _=>rfl,ZVF _⟩
 |true=>
  have ht:(bH K V bs X).take (n+2)=bH K V bs (X.take n):=rfl;refine⟨X.take n,by rw[cond_true,ht],⟨H.lk,H.lb,H.nd,λj b A h1 h2=>?_,λm=>ZEO<|H.cl m⟩,λi hi=>by rw[ZY6,if_pos hi],by simp;omega⟩
  simp only[ZVB]at c;have c2:=c.2;rw[ht]at c2;simp only[bH,X4,Zj,ZVB]at c2;have:=ZG9 c2.1.2<|ZFf h1 h2;have hb:b+2<n+2:=by simpa[bel]using this
  rw[ZY6,if_pos<|by omega]
  exact H.row j b A h1 h2
def ZDY(S:List Str×List (List Str))(x d:Str):List Str×List (List Str):=
 match S.1.findIdx? (Z3 x)with
 |some j=>(S.1,S.2.set j<|(S.2[j]?.getD [])++[d])
 |none=>(S.1++[x],S.2++[[d]])
def ZE6(S:List Str×List (List Str))(x:Str):List Str:=
 match S.1.findIdx? (Z3 x)with
 |some j=>S.2[j]?.getD []
 |none=>[]
def ZEX{K:List Str}{V:List (List Str)}{bs:List Nat}(x:Str)(z:AV)(tl:List AObj):W5 (.map (K.map encS) (ZE1 bs V)::tl) false [2] false z (.mp 0) (.str x) =
 (match K.findIdx? (Z3 x)with|some j=>(ZE1 bs V)[j]? |none=>some z):=by
 simp only[W5,ZW4,QW,Z1Y,ZEW];cases K.findIdx? (Z3 x)with
 |none=>rfl
 |some j=>
  simp only[ZVZ,ZWg];cases(ZE1 bs V)[j]?<;>rfl
def ZGa{α:Type}{p:α->Bool}{l:List α}{j:Nat}(h:l.findIdx? p=some j):j<l.length:=by
 rw[List.findIdx?_eq_some_iff_findIdx_eq]at h;exact h.1
def ZGb:∀(bs:List Nat)(V:List<|List Str)(j b:Nat)(A:List Str),bs[j]?=some b->(ZE1 bs V).set j (.sl (b+2) A.length 0 A.length false)=ZE1 bs (V.set j A)
 |[],V,j,b,A,h=>by simp at h
 |b'::bs,[],j,b,A,h=>by simp[ZE1]
 |b'::bs,v::V,0,b,A,h=>by
  simp only[ZW4,Option.some.injEq]at h;subst h;rfl
 |b'::bs,v::V,j+1,b,A,h=>by
  rw[ZWm]at h;have:=ZGb bs V j b A h;unfold ZE1 at this⊢;simp only[List.zipWith_cons_cons,List.set_cons_succ,this]
def HB.lt{K:List Str}{V:List (List Str)}{bs:List Nat}{X:List AObj}(H:HB K V bs X):∀b∈bs,b<X.length:=λb hb=>by
 obtain⟨j,hj⟩:=ZXi.1 hb;obtain⟨b',A,h1,_,_,h4⟩:=H.at (j:=j)<|by rw[<-H.lb];exact(ZVK.1 hj).1
 rw[hj]at h1;cases h1;exact h4
def ZHO{K:List Str}{V:List (List Str)}{bs:List Nat}{X:List AObj}(H:HB K V bs X)(x d:Str)(hV:∀A∈V,A.length<=1000000):
 ∃v w rs b o bs' X',W5 (bH K V bs X) false [2] false (.isl false true 1 []) (.mp 0) (.str x)=some v/\
  Qt (bH K V bs X) (bH K V bs X).length false 1 16 v (.isl false false 1 [.str d])=some (w,rs,some (b+2,o))/\
  YK (setH (bH K V bs X) (b+2) o) false [2] (.mp 0) (.str x) w=some (.bot,bH (ZDY (K,V) x d).1 (ZDY (K,V) x d).2 bs' X')/\
  HB (ZDY (K,V) x d).1 (ZDY (K,V) x d).2 bs' X'/\X.length<=X'.length/\(∀i,i<X.length->i ∉ bs->X'[i]?=X[i]?)/\(∀b'∈bs',b'∈bs\/b'=X.length):=by
 unfold ZDY bH;have hcl:∀(L:List Str)m,Zj m (.row 1<|L.map encS)=true:=λL m=>ZEv m L
 cases hf:K.findIdx? (Z3 x)with
 |none=>
  refine⟨.isl false true 1 [],.sl (X.length+2) 1 0 1 false,[],X.length,.row 1 [.str d],bs++[X.length],X++[.row 1 [.str d]],by rw[ZEX,hf],rfl,?_,?_,by simp,λi hi _=>ZWc hi,?_⟩
  .have hs:setH (.map (K.map encS) (ZE1 bs V)::.row 1 [.mp 0]::X) (X.length+2) (.row 1 [.str d])=.map (K.map encS) (ZE1 bs V)::.row 1 [.mp 0]::(X++[.row 1 [.str d]]):=J1 _ _;rw[hs];simp only[YK,ZW4,Yo,Z1Y,ZEW,hf,Option.map_none,ZM,ZH];have hz:ZE1 (bs++[X.length]) (V++[[d]])=ZE1 bs V++[.sl (X.length+2) 1 0 1 false]:=by
    unfold ZE1;rw[List.zipWith_append<|by rw[H.lb,H.lk]]
    rfl
   rw[hz,ZW7];rfl
  .have hbn:X.length ∉ bs:=λhm=>Nat.lt_irrefl _ (H.lt _ hm)
   refine⟨by simp[H.lk],by simp[H.lb],?_,λj b A h1 h2=>?_,λm=>?_⟩
   .rw[ZX6];exact⟨H.nd,by simp,λa ha b hb=>by simp only[ZW2]at hb;subst hb;exact λe=>hbn<|e▸ha⟩
   .by_cases hj:j<bs.length
    .rw[ZWc hj]at h1;rw[ZWc<|by rw[H.lk,<-H.lb];exact hj]at h2
     have:=H.row j b A h1 h2;rw[ZWc (ZVK.1 this).1];exact this
    .have hj2:j=bs.length:=by
      have:=(ZVK.1 h1).1;simp at this;omega
     subst hj2;rw[ZWh<|ZVF _,ZX2]at h1;rw[show bs.length=V.length by rw[H.lb,H.lk],ZWh<|ZVF _,ZX2]at h2
     simp only[ZW4,Option.some.injEq]at h1 h2;subst h1 h2;rw[ZWh<|ZVF _,ZX2];rfl
   .rw[ZEu,H.cl m];show(true&&(Zj m (.row 1 [.str d])&&true))=true
    rw[show Zj m (.row 1 [.str d])=true from hcl [d] m]
    rfl
  .intro b' hb';simp only[ZW8,ZW2]at hb';exact hb'
 |some j=>
  have hj:=ZGa hf;obtain⟨b,A,h1,h2,h3,h4⟩:=H.at hj;have hA:=hV A<|ZVN h2;have hv:=ZFf h1 h2;have hbb:(AObj.map (K.map encS) (ZE1 bs V)::.row 1 [.mp 0]::X)[b+2]?=some (.row 1<|A.map encS):=h3;have hg:(A.map encS).length=A.length:=ZVA _;refine⟨_,.sl (b+2) (A.length+1) 0 (A.length+1) false,[b+2],b,.row 1<|A.map encS++[.str d],bs,X.set b<|.row 1<|A.map encS++[.str d],by rw[ZEX,hf];exact hv,?_,?_,?_,by simp,λi hi hib=>?_,λb' hb'=>.inl hb'⟩
  .have hel:Q2 (AObj.map (K.map encS) (ZE1 bs V)::.row 1 [.mp 0]::X) (.sl (b+2) A.length 0 A.length false)=some (A.map encS):=by
    simp only[Q2,hbb,hg,beq_self_eq_true,cond_true,ZX1];rw[ZW5<|by simp]
   have hz:Qq (AObj.map (K.map encS) (ZE1 bs V)::.row 1 [.mp 0]::X) 1 (.sl (b+2) A.length 0 A.length false)=true:=by simp only[Qq,hbb];rfl
   have hbd:((A.map encS).length+1)*16<=140737488355328:=by simp;omega
   unfold Qt;rw[hel];dsimp only[Q2];rw[if_pos ⟨hz,rfl,Nat.zero_lt_one,by decide,hbd⟩]
   simp only[ZY2,cond_false,hbb,beq_self_eq_true,ZVD,ZVU,ZWs];rfl
  .have hs:setH (AObj.map (K.map encS) (ZE1 bs V)::.row 1 [.mp 0]::X) (b+2) (.row 1<|A.map encS++[.str d])=.map (K.map encS) (ZE1 bs V)::.row 1 [.mp 0]::X.set b (.row 1<|A.map encS++[.str d]):=ZEC (by simp;omega)
   rw[hs];simp only[YK,ZW4,Yo,Z1Y,ZEW,hf,ZVZ,ZWg,ZM,ZH,h2,ZWZ];have hz:=ZGb bs V j b (A++[d]) h1;rw[ZVQ,ZXd]at hz;rw[hz];rfl
  .simp only[h2,ZWZ];refine⟨by simp[H.lk],H.lb,H.nd,λj' b' A' e1 e2=>?_,λm=>ZEN (H.cl m) ?_⟩
   .by_cases hjj:j=j'
    .subst hjj;rw[h1]at e1;cases e1;rw[ZXz<|by rw[H.lk];exact hj]at e2
     cases e2;rw[ZXz h4,ZW7];rfl
    .rw[ZXq hjj]at e2;have hne:b≠b':=λe=>by
      subst e;exact hjj<|(ZYj (by rw[H.lb];exact hj) H.nd).1 (by rw[h1,e1])
     rw[ZXq hne];exact H.row j' b' A' e1 e2
   .have:=hcl (A++[d]) m
    rwa[ZW7]at this
  .have hne:b≠i:=λe=>hib (by rw[<-e];exact ZVN h1)
   rw[ZXq hne]
def c16B:ACode:=match c21L0b with| .keep _ (.seq _<|.seq _<|.seq (.keep _<|.block _ b) _)=>b|_=>.skip
def c16Dr:ACode:=match c16B with| .seq _ (.keep _ d)=>d|_=>.skip
def ZHP(r1:List Nat)(b:Nat):Qy ⟨false,r1,some<|b+2,none⟩ ⟨false,[1],none,none⟩=true:=by
 have:(b+2==1)=false:=by rw[beq_eq_false_iff_ne];omega
 simp[Qy]
def ZHQ(r1:List Nat)(b:Nat):Qy ⟨false,r1,some b,none⟩ ⟨false,[],none,none⟩=true:=by simp[Qy]
def ZHR(a1 a2 a4 a5 a23 a75 a30 a59 a49 a50:AV){h3:Hp}{m:AObj}{X:List AObj}{nb b:Nat}{x:Str}{d:Ga}{v w:AV}{rs:List Nat}{o:AObj}
 (hr9:rowAt (m::.row 1 [.mp 0]::X) nb 1=some (16,[d.enc]))
 (hg:W5 (m::.row 1 [.mp 0]::X) false [2] false (.isl false true 1 []) (.mp 0) (.str x)=some v)
 (ha:Qt (m::.row 1 [.mp 0]::X) (m::AObj.row 1 [.mp 0]::X).length false 1 16 v (.isl false false 1 [.str d.Id])=some (w,rs,some (b+2,o)))
 (hp:YK (setH (m::.row 1 [.mp 0]::X) (b+2) o) false [2] (.mp 0) (.str x) w=some (.bot,h3)):
 ∃fr',Zb rE c16Dr [(1,a1),(2,a2),(4,a4),(5,a5),(7,.ptr 1 0 0 1),(9,.ptr nb 0 0 1),(11,.str x),(22,a23),(23,a75),(24,a30),(29,a59),(30,a49),(31,a50)] (m::.row 1 [.mp 0]::X)=some (.normal,fr',h3)/\
  Z2 [1,2,4,5,7,9,22,23,24,29,30,31] fr'=[(1,a1),(2,a2),(4,a4),(5,a5),(7,.ptr 1 0 0 1),(9,.ptr nb 0 0 1),(22,a23),(23,a75),(24,a30),(29,a59),(30,a49),(31,a50)]:=by
 have haw:appW (m::.row 1 [.mp 0]::X) false 1 16 v (.isl false false 1 [.str d.Id])=some (w,setH (m::.row 1 [.mp 0]::X) (b+2) o):=by
  unfold appW;rw[ha];rfl
 have ha:Qt (m::.row 1 [.mp 0]::X) (X.length+1+1) false 1 16 v (.isl false false 1 [.str d.Id])=some (w,rs,some (b+2,o)):=ha;have e:setH (m::.row 1 [.mp 0]::X) (b+2) o=m::.row 1 [.mp 0]::setH X b o:=by simp only[go_sem]
 rw[e]at hp;simp only[Ga.enc,NL.enc]at hr9;refine⟨_,by simp only[go_sem,c16Dr,c16B,c21L0b,hr9,hg,haw,hp,Za,QG,Wm,opT,Z8,ha,ZHP,ZHQ,ZWd,ZW4,ZWm,Option.map]<;>rfl,?_⟩
 simp only[go_sem]
def ZHS(a1 a2 a4 a5 a23 a75 a30:AV)(d:Ga)(ex:Bool){K:List Str}{V:List (List Str)}{bs:List Nat}{X:List AObj}(H:HB K V bs X)(hV:∀A∈V,A.length<=1000000){nb:Nat}(hnb:nb ∉ bs)(hX:X[nb]?=some (.row 16 [d.enc]))
 {L:List Str} {i:Nat} {x:Str} (hx:L[i]?=some x) (hL:L.length<=1000):
 ∃bs' X',Zb rE c21L0b [(1,a1),(2,a2),(4,a4),(5,a5),(7,.ptr 1 0 0 1),(9,.ptr (nb+2) 0 0 1),(22,a23),(23,a75),(24,a30),(29,.isl false ex 1<|L.map encS),(30,I L.length),(31,I i)] (bH K V bs X) =
  some (.normal,[(1,a1),(2,a2),(4,a4),(5,a5),(7,.ptr 1 0 0 1),(9,.ptr (nb+2) 0 0 1),(22,a23),(23,a75),(24,a30),(29,.isl false ex 1<|L.map encS),(30,I L.length),(31,I (i+1:Nat))],bH (ZDY (K,V) x d.Id).1 (ZDY (K,V) x d.Id).2 bs' X')/\
  HB (ZDY (K,V) x d.Id).1 (ZDY (K,V) x d.Id).2 bs' X'/\nb ∉ bs'/\X'[nb]?=some (.row 16 [d.enc])/\(∀b'∈bs',b'∈bs\/X.length<=b'):=by
 have hi:i<L.length:=(ZVK.1 hx).1;have hg:=Z6 (f:=encS) hx;have hi':=Zh hi;have hwr:=Zx (n:=i)<|by omega
 have hnl:nb<X.length:=(ZVK.1 hX).1;obtain⟨v,w,rs,b,ob,bs',X1,e1,e2,e3,H1,l1,k1,m1⟩:=ZHO H x d.Id hV;have hr9:rowAt (bH K V bs X) (nb+2) 1=some (16,[d.enc]):=by
  show rowAt X nb 1=_
  unfold rowAt;rw[hX];rfl
 obtain⟨fr1,e4,r1⟩:=ZHR a1 a2 a4 a5 a23 a75 a30 (.isl false ex 1<|L.map encS) (I L.length) (I i) (h3:=bH (ZDY (K,V) x d.Id).1 (ZDY (K,V) x d.Id).2 bs' X1) hr9 e1 e2 e3;have e4:Zb rE c16Dr _ (bH K V bs X)=_:=e4;have kpx:∀{X2:List AObj}(fr:Fr),HB (ZDY (K,V) x d.Id).1 (ZDY (K,V) x d.Id).2 bs' X2->∃ZIK,Xq (bH K V bs X).length fr (bH (ZDY (K,V) x d.Id).1 (ZDY (K,V) x d.Id).2 bs' X2)=bH (ZDY (K,V) x d.Id).1 (ZDY (K,V) x d.Id).2 bs' ZIK/\HB (ZDY (K,V) x d.Id).1 (ZDY (K,V) x d.Id).2 bs' ZIK/\∀i,i<X.length->ZIK[i]?=X2[i]?:=by
  intro X2 fr H2;obtain⟨ZIK,t1,t2,t3,t4⟩:=ZFg H2 X.length fr;exact⟨ZIK,t1,t2,t3⟩
 obtain⟨X2,q1,H2,g2⟩:=kpx [(1,a1),(2,a2),(4,a4),(5,a5),(7,.ptr 1 0 0 1),(9,.ptr (nb+2) 0 0 1),(22,a23),(23,a75),(24,a30),(29,.isl false ex 1<|L.map encS),(30,I L.length),(31,I i)] H1;obtain⟨ZIK,q2,H3,g3⟩:=kpx [(1,a1),(2,a2),(4,a4),(5,a5),(7,.ptr 1 0 0 1),(9,.ptr (nb+2) 0 0 1),(22,a23),(23,a75),(24,a30),(29,.isl false ex 1<|L.map encS),(30,I L.length),(31,I i)] H2;obtain⟨ZCU,q3,H4,g4⟩:=kpx [(1,a1),(2,a2),(4,a4),(5,a5),(7,.ptr 1 0 0 1),(9,.ptr (nb+2) 0 0 1),(22,a23),(23,a75),(24,a30),(29,.isl false ex 1<|L.map encS),(30,I L.length),(31,I (i+1:Nat))] H3;have t0:∀fr,Xq (bH K V bs X).length fr (bH K V bs X)=bH K V bs X:=λfr=>ZE5 rfl
 refine⟨bs',ZCU,?_,H4,λhm=>?_,?_,λb' hb'=>(m1 b' hb').imp id λe=>by omega⟩
 .show Zb rE (.keep [1,2,4,5,7,9,22,23,24,29,30,31]<|.seq (.region [o 32<|.bin .lss (.t 31)<|.t 30])<|
   .seq (.cond (.t 32) .skip<|.exit 2)<|
   .seq (.keep [1,2,4,5,7,9,22,23,24,29,30,31]<|.block 3<|
    .seq (.keep [1,2,4,5,7,9,11,22,23,24,29,30,31]<|.region [o 33<|.iadr 1 (.t 29)<|.t 31,o 34<|.load none<|.t 33,o 11<|.mv<|.t 34])<|
    .keep [1,2,4,5,7,9,22,23,24,29,30,31] c16Dr)<|
   .region [o 44<|.bin .add (.t 31)<|.c<|.int .i64 1,o 31<|.mv<|.t 44]) _ _=_
  simp only[go_sem,hi',hwr,hg,t0,e4,encS,r1,q1,q2,q3]
 .rcases m1 nb hm with h|h
  .exact hnb h
  .omega
 .rw[g4 nb hnl,g3 nb hnl,g2 nb hnl,k1 nb hnl hnb];exact hX
def ZHT{S:List Str×List (List Str)}{c:Nat}(h:∀A∈S.2,A.length<=c)(x d:Str):∀A∈(ZDY S x d).2,A.length<=c+1:=by
 intro A hA;unfold ZDY at hA;cases hf:S.1.findIdx? (Z3 x)with
 |none=>
  rw[hf]at hA;simp only[ZW8,ZW2]at hA;rcases hA with hA|rfl
  .have:=h A hA;omega
  .simp
 |some j=>
  rw[hf]at hA;rcases ZYe hA with hA|rfl
  .have:=h A hA;omega
  .rw[ZVQ,ZXd];cases hj:S.2[j]? with
   |none=>simp
   |some B=>
    have:=h B<|ZVN hj;simp only[ZWZ];omega
def ZE0(d:Str)(S:List Str×List (List Str))(L:List Str):List Str×List (List Str):=L.foldl (λS x=>ZDY S x d) S
def ZFh{d:Str}:∀(L:List Str){S:List Str×List (List Str)}{c:Nat}(h:∀A∈S.2,A.length<=c),∀A∈(ZE0 d S L).2,A.length<=c+L.length
 |[],S,c,h=>h
 |x::r,S,c,h=>λA hA=>by
  have:=ZFh r (ZHT h x d) A hA;simp only[ZVU];omega
def ZHU(a1 a2 a4 a5 a23 a75 a30:AV)(d:Ga)(ex:Bool){K:List Str}{V:List (List Str)}{bs:List Nat}{X:List AObj}(H:HB K V bs X){c:Nat}(hV:∀A∈V,A.length<=c){nb:Nat}(hnb:nb ∉ bs)(hX:X[nb]?=some (.row 16 [d.enc]))
 (L:List Str) (hL:L.length<=1000) (hc:c+L.length<=1000000):
 ∃fr' bs' X',Zg rE [1,2,4,5,7,9,22,23,24,29,30,31] c21L0b [(1,a1),(2,a2),(4,a4),(5,a5),(7,.ptr 1 0 0 1),(9,.ptr (nb+2) 0 0 1),(22,a23),(23,a75),(24,a30),(29,.isl false ex 1<|L.map encS),(30,I L.length),(31,I 0)] (bH K V bs X) =
  some (.exit 2,fr',bH (ZE0 d.Id (K,V) L).1 (ZE0 d.Id (K,V) L).2 bs' X')/\HB (ZE0 d.Id (K,V) L).1 (ZE0 d.Id (K,V) L).2 bs' X'/\
  Z2 [1,2,4,5,7,22,23,24] fr'=[(1,a1),(2,a2),(4,a4),(5,a5),(7,.ptr 1 0 0 1),(22,a23),(23,a75),(24,a30)]:=by
 obtain⟨e,fr',h',Lp,hQ⟩:=Z9Y (E:=rE) (live:=[1,2,4,5,7,9,22,23,24,29,30,31]) (b:=c21L0b) L.length
  (λi fr h=>∃bs' X',fr=[(1,a1),(2,a2),(4,a4),(5,a5),(7,.ptr 1 0 0 1),(9,.ptr (nb+2) 0 0 1),(22,a23),(23,a75),(24,a30),(29,.isl false ex 1<|L.map encS),(30,I L.length),(31,I i)]/\h=bH (ZE0 d.Id (K,V)<|L.take i).1 (ZE0 d.Id (K,V)<|L.take i).2 bs' X'/\
   HB (ZE0 d.Id (K,V)<|L.take i).1 (ZE0 d.Id (K,V)<|L.take i).2 bs' X'/\nb ∉ bs'/\X'[nb]?=some (.row 16 [d.enc]))
  (λe fr h=>e=.exit 2/\∃bs' X',h=bH (ZE0 d.Id (K,V) L).1 (ZE0 d.Id (K,V) L).2 bs' X'/\HB (ZE0 d.Id (K,V) L).1 (ZE0 d.Id (K,V) L).2 bs' X'/\
   Z2 [1,2,4,5,7,22,23,24] fr=[(1,a1),(2,a2),(4,a4),(5,a5),(7,.ptr 1 0 0 1),(22,a23),(23,a75),(24,a30)])
  (λi fr h m=>by obtain⟨bs',X',rfl,_⟩:=m;rfl)
  (λi fr h hi m=>by
   obtain⟨bs1,X1,rfl,rfl,H1,n1,x1⟩:=m;refine .inl ?_;obtain⟨x,hx⟩:∃x,L[i]?=some x:=⟨_,ZVH hi⟩;have hf:ZE0 d.Id (K,V) (L.take<|i+1)=ZDY (ZE0 d.Id (K,V)<|L.take i) x d.Id:=Us (λS x=>ZDY S x d.Id) (K,V) hx
   have hlen:=ZFh (d:=d.Id) (L.take i) (S:=(K,V)) hV;have hle:(L.take i).length<=L.length:=by simp;omega
   rw[hf];generalize ZE0 d.Id (K,V) (L.take i)=S at H1 hlen⊢;obtain⟨K1,V1⟩:=S;obtain⟨bs2,X2,e2,H2,n2,x2,_⟩:=ZHS a1 a2 a4 a5 a23 a75 a30 d ex H1 (λA hA=>by have:=hlen A hA;omega) n1 x1 hx hL
   exact⟨_,_,e2,bs2,X2,rfl,rfl,H2,n2,x2⟩)
  (λfr h m=>by
   obtain⟨bs1,X1,rfl,rfl,H1,n1,x1⟩:=m;rw[ZWj]at H1⊢;have t0:∀fr,Xq (bH (ZE0 d.Id (K,V) L).1 (ZE0 d.Id (K,V) L).2 bs1 X1).length fr (bH (ZE0 d.Id (K,V) L).1 (ZE0 d.Id (K,V) L).2 bs1 X1)=bH (ZE0 d.Id (K,V) L).1 (ZE0 d.Id (K,V) L).2 bs1 X1:=λfr=>ZE5 rfl
   refine⟨.exit 2,_,_,by simp only[go_sem,c21L0b,ZG,t0]<;>rfl,by simp,rfl,bs1,X1,rfl,H1,?_⟩
   simp only[go_sem])
  L.length 0 _ (bH K V bs X) (by omega) ⟨bs,X,rfl,rfl,H,hnb,hX⟩
 obtain⟨rfl,bs',X',rfl,h1,h2⟩:=hQ;exact⟨fr',bs',X',Lp,h1,h2⟩
def ZHV(K:List Str)(V:List<|List Str)(bs:List Nat)(X:List AObj)(o:AObj):bH K V bs X++[o]=bH K V bs (X++[o]):=rfl
def ZE2(K:List Str)(V:List<|List Str)(bs:List Nat)(X:List AObj):(bH K V bs X).length=X.length+2:=rfl
def ZHW(K:List Str)(V:List<|List Str)(bs:List Nat)(X:List AObj)(b g:Nat):rowAt (bH K V bs X) (b+2) g=rowAt X b g:=rfl
def ZHX(K:List Str)(V:List<|List Str)(bs:List Nat)(X:List AObj)(x y:AObj):setH (bH K V bs<|X++[x]) (X.length+2) y=bH K V bs (X++[y]):=ZEp (bH K V bs X) x y
def ZGc(X:List AObj)(x:AV)(sz:Nat):rowAt (X++[.row sz [x]]) X.length 1=some (sz,[x]):=ZEP X [] x sz
def ZE3(S:List Str×List (List Str))(d:Ga):List Str×List (List Str):=ZE0 d.Id S d.After.l
def ZHY(a1 a2 a4 a5:AV)(ds:List Ga)(bw ex:Bool){K:List Str}{V:List (List Str)}{bs:List Nat}{X:List AObj}(H:HB K V bs X){c:Nat}(hV:∀A∈V,A.length<=c)
 {k:Nat} {d:Ga} (hd:ds[k]?=some d) (hk:ds.length<=1000) (hL:d.After.l.length<=1000) (hc:c+d.After.l.length<=1000000):
 ∃bs' X',Zb rE c21L1b [(1,a1),(2,a2),(4,a4),(5,a5),(7,.ptr 1 0 0 1),(22,.isl bw ex 16<|ds.map Ga.enc),(23,I ds.length),(24,I k)] (bH K V bs X) =
  some (.normal,[(1,a1),(2,a2),(4,a4),(5,a5),(7,.ptr 1 0 0 1),(22,.isl bw ex 16<|ds.map Ga.enc),(23,I ds.length),(24,I (k+1:Nat))],bH (ZE3 (K,V) d).1 (ZE3 (K,V) d).2 bs' X')/\
  HB (ZE3 (K,V) d).1 (ZE3 (K,V) d).2 bs' X':=by
 have hlt:k<ds.length:=(ZVK.1 hd).1;have hg:=Z6 (f:=Ga.enc) hd;have hi':=Zh hlt;have hwr:=Zx (n:=k)<|by omega
 have hbn:X.length ∉ bs:=λhm=>Nat.lt_irrefl _<|H.lt _ hm
 have H0:HB K V bs (X++[.row 16 [d.enc]]):=by
  refine⟨H.lk,H.lb,H.nd,λj b A h1 h2=>?_,λm=>?_⟩
  .have:=H.row j b A h1 h2;rw[ZWc (ZVK.1 this).1];exact this
  .have e:Zj m (.row 16 [d.enc])=true:=by simp only[Zj,Zd,Ga.enc,NL.enc,bel,ZEv,ZVJ,ZVD,ZWd]
   rw[ZEu,H.cl m];show(true&&(Zj m (.row 16 [d.enc])&&true))=true
   rw[e];rfl
 obtain⟨fr1,bs1,X1,e1,H1,r1⟩:=ZHU a1 a2 a4 a5 (.isl bw ex 16<|ds.map Ga.enc) (I ds.length) (I k) d d.After.ex H0 hV hbn (ZF3 X _) d.After.l hL hc;have kpx:∀{X2:List AObj}(n:Nat)(fr:Fr),HB (ZE3 (K,V) d).1 (ZE3 (K,V) d).2 bs1 X2->∃ZIK,Xq (n+2) fr (bH (ZE3 (K,V) d).1 (ZE3 (K,V) d).2 bs1 X2)=bH (ZE3 (K,V) d).1 (ZE3 (K,V) d).2 bs1 ZIK/\HB (ZE3 (K,V) d).1 (ZE3 (K,V) d).2 bs1 ZIK:=by
  intro X2 n fr H2;obtain⟨ZIK,t1,t2,t3,t4⟩:=ZFg H2 n fr;exact⟨ZIK,t1,t2⟩
 obtain⟨X2,q1,H2⟩:=kpx (X.length+1) [(1,a1),(2,a2),(4,a4),(5,a5),(7,.ptr 1 0 0 1),(22,.isl bw ex 16<|ds.map Ga.enc),(23,I ds.length),(24,I k)] H1;obtain⟨ZIK,q2,H3⟩:=kpx X.length [(1,a1),(2,a2),(4,a4),(5,a5),(7,.ptr 1 0 0 1),(22,.isl bw ex 16<|ds.map Ga.enc),(23,I ds.length),(24,I k)] H2;obtain⟨ZCU,q3,H4⟩:=kpx X.length [(1,a1),(2,a2),(4,a4),(5,a5),(7,.ptr 1 0 0 1),(22,.isl bw ex 16<|ds.map Ga.enc),(23,I ds.length),(24,I (k+1:Nat))] H3;have t0:∀fr X,Xq (X.length+2) fr (bH K V bs X)=bH K V bs X:=λfr X=>ZE5 rfl
 have t1:∀fr o,Xq (X.length+1+2) fr (bH K V bs<|X++[o])=bH K V bs (X++[o]):=λfr o=>ZE5<|by rw[ZE2,ZVQ];rfl
 have t9:∀o,Xq (X.length+2) [(1,a1),(2,a2),(4,a4),(5,a5),(7,AV.ptr 1 0 0 1),(9,.ptr (X.length+2) 0 0 1),(22,.isl bw ex 16<|ds.map Ga.enc),(23,I ds.length),(24,I k)] (bH K V bs<|X++[o])=bH K V bs (X++[o]):=λo=>by
  have e:Zd (X.length+2) ([(1,a1),(2,a2),(4,a4),(5,a5),(7,AV.ptr 1 0 0 1),(9,.ptr (X.length+2) 0 0 1),(22,.isl bw ex 16<|ds.map Ga.enc),(23,I ds.length),(24,I k)].map (λ(p:Nat×AV)=>p.2))=false:=by
   have hn:Nat.blt (X.length+2) (X.length+2)=false:=by rw[ZWx];simp[ZWo]
   simp[Zd,bel,hn]
  unfold Xq;rw[e];rfl
 refine⟨bs1,ZCU,?_,H4⟩;simp only[ZE3]at q1 q2 q3⊢;simp only[Ga.enc,NL.enc]at hg e1 q1 t9;have rl:=λ(x:AV)=>ZGc X x 16
 simp only[go_sem,c21L1b,c21L0,hi',hwr,hg,ZHV,ZE2,ZHX,ZHW,rl,t0,t1,t9,e1,r1,q1,q2,q3,Ga.enc,NL.enc,ZVA]
def ZDX(ds:List Ga):List Str×List (List Str):=ds.foldl ZE3 ([],[])
def ZHZ{S:List Str×List (List Str)}{c:Nat}(h:∀A∈S.2,A.length<=c)(d:Ga)(hd:d.After.l.length<=1000):∀A∈(ZE3 S d).2,A.length<=c+1000:=λA hA=>by
 have:=ZFh d.After.l h A hA;omega
def ZGd:∀(ds:List Ga){S:List Str×List (List Str)}{c:Nat}(h:∀A∈S.2,A.length<=c)(hd:∀d∈ds,d.After.l.length<=1000),∀A∈(ds.foldl ZE3 S).2,A.length<=c+ds.length*1000
 |[],S,c,h,_=>λA hA=>by have:=h A hA;omega
 |d::r,S,c,h,hd=>λA hA=>by
  have:=ZGd r (ZHZ h d<|hd d<|ZWl ..) (λx hx=>hd x<|ZWC _ hx) A hA
  simp only[ZVU];omega
def ZI0:HB [] [] [] []:=⟨rfl,rfl,ZXO,λj b A h _=>by simp at h,λn=>rfl⟩
def ZI1(a1 a2 a4 a5:AV)(ds:List Ga)(bw ex:Bool)(hk:ds.length<=500)(hL:∀d∈ds,d.After.l.length<=1000):
 ∃fr' bs X,Zg rE [1,2,4,5,7,22,23,24] c21L1b [(1,a1),(2,a2),(4,a4),(5,a5),(7,.ptr 1 0 0 1),(22,.isl bw ex 16<|ds.map Ga.enc),(23,I ds.length),(24,I 0)] (bH [] [] [] []) =
  some (.exit 0,fr',bH (ZDX ds).1 (ZDX ds).2 bs X)/\HB (ZDX ds).1 (ZDX ds).2 bs X/\Z2 [1,2,4,5,7] fr'=[(1,a1),(2,a2),(4,a4),(5,a5),(7,.ptr 1 0 0 1)]:=by
 obtain⟨e,fr',h',Lp,hQ⟩:=Z9Y (E:=rE) (live:=[1,2,4,5,7,22,23,24]) (b:=c21L1b) ds.length
  (λi fr h=>∃bs' X',fr=[(1,a1),(2,a2),(4,a4),(5,a5),(7,.ptr 1 0 0 1),(22,.isl bw ex 16<|ds.map Ga.enc),(23,I ds.length),(24,I i)]/\h=bH (ZDX<|ds.take i).1 (ZDX<|ds.take i).2 bs' X'/\HB (ZDX<|ds.take i).1 (ZDX<|ds.take i).2 bs' X')
  (λe fr h=>e=.exit 0/\∃bs' X',h=bH (ZDX ds).1 (ZDX ds).2 bs' X'/\HB (ZDX ds).1 (ZDX ds).2 bs' X'/\Z2 [1,2,4,5,7] fr=[(1,a1),(2,a2),(4,a4),(5,a5),(7,.ptr 1 0 0 1)])
  (λi fr h m=>by obtain⟨bs',X',rfl,_⟩:=m;rfl)
  (λi fr h hi m=>by
   obtain⟨bs1,X1,rfl,rfl,H1⟩:=m;refine .inl ?_;obtain⟨d,hd⟩:∃x,ds[i]?=some x:=⟨_,ZVH hi⟩;have hf:ZDX (ds.take<|i+1)=ZE3 (ZDX<|ds.take i) d:=Us ZE3 ([],[]) hd;have hlen:=ZGd (ds.take i) (S:=([],[])) (c:=0) (λA h=>by simp at h)<|λd hd=>hL d<|ZXa hd
   have hle:(ds.take i).length<=ds.length:=by simp;omega
   have hdl:=hL d<|ZVN hd;rw[hf];have hlen:∀A∈(ZDX<|ds.take i).2,A.length<=0+(ds.take i).length*1000:=hlen;generalize ZDX (ds.take i)=S at H1 hlen⊢;obtain⟨K1,V1⟩:=S;obtain⟨bs2,X2,e2,H2⟩:=ZHY a1 a2 a4 a5 ds bw ex H1 hlen hd (by omega) hdl<|by omega
   exact⟨_,_,e2,bs2,X2,rfl,rfl,H2⟩)
  (λfr h m=>by
   obtain⟨bs1,X1,rfl,rfl,H1⟩:=m;rw[ZWj]at H1⊢;have t0:∀fr,Xq (bH (ZDX ds).1 (ZDX ds).2 bs1 X1).length fr (bH (ZDX ds).1 (ZDX ds).2 bs1 X1)=bH (ZDX ds).1 (ZDX ds).2 bs1 X1:=λfr=>ZE5 rfl
   refine⟨.exit 0,_,_,by simp only[go_sem,c21L1b,ZG,t0]<;>rfl,by simp,rfl,bs1,X1,rfl,H1,?_⟩
   simp only[go_sem])
  ds.length 0 _ (bH [] [] [] []) (by omega) ⟨[],[],rfl,rfl,ZI0⟩
 obtain⟨rfl,bs',X',rfl,h1,h2⟩:=hQ;exact⟨fr',bs',X',Lp,h1,h2⟩
def ZGe{S:List Str×List (List Str)}{bs:List Nat}{X:List AObj}(H:HB S.1 S.2 bs X)(x:Str)(hd:List AObj)(hh:∃Z,hd=bH S.1 S.2 bs X++Z):
 ∃v,(∀tl,W5 (hd++tl) false [2] false (.isl false false 1 []) (.mp 0) (.str x)=some v)/\ZEl hd v (ZE6 S x):=by
 obtain⟨Z,rfl⟩:=hh;obtain⟨K,V⟩:=S;unfold ZE6;cases hf:K.findIdx? (Z3 x)with
 |none=>exact⟨.isl false false 1 [],λtl=>by show W5 (.map (K.map encS) (ZE1 bs V)::_) _ _ _ _ _ _=_;rw[ZEX,hf],ZHE _ false []⟩
 |some j=>
  obtain⟨b,A,h1,h2,h3,h4⟩:=H.at<|ZGa hf;have h2:V[j]?=some A:=h2;refine⟨.sl (b+2) A.length 0 A.length false,λtl=>?_,?_⟩
  .show W5 (.map (K.map encS) (ZE1 bs V)::_) _ _ _ _ _ _=_
   rw[ZEX,hf];exact ZFf h1 h2
  .simp only[h2,ZWZ];refine ZHF ?_;show(X++Z)[b]?=_
   rw[ZWc h4];exact h3
def ofr(X:List AObj)(t:AV):Fr:=[(4,.isl false false 1 []),(5,I 0),(7,.ptr 1 0 0 1),(12,.ptr (X.length+3) 0 0 1),(50,t)]
def oL(st:LoopState)(X:List AObj)(t:AV):AObj:=.loop st .normal (ofr X t) [51] c21R2a c21R2b
def oH(S:List Str×List (List Str))(bs:List Nat)(X:List AObj)(rg lp:AObj)(D:List Str):List AObj:=
 bH S.1 S.2 bs X++[.row 1<|D.map encS,.row 1 [.sl (X.length+2) D.length 0 D.length false],rg,lp]
def ZI2(X:List AObj)(t:AV)(d:Ga)(h:Hp):Zb rE c21R2a ((51,d.enc)::ofr X t) h=some (.normal,(13,.ptr h.length 0 0 1)::(51,d.enc)::ofr X t,h++[.row 16 [d.enc]]):=by
 simp only[go_sem,c21R2a,ofr,Ga.enc,NL.enc,ZEp]
def oF(S:List Str×List (List Str))(d:Ga)(D:List Str):List Str:=bif (ZE6 S d.Id).isEmpty then D++[d.Id]else D
def ZI3(X:List AObj)(t:AV)(d:Ga){h h1 h2:Hp}{n k bb g g2:Nat}{v:AV}(r1:rowAt h 1 1=some (1,[.mp 0]))(r13:rowAt h n 1=some (16,[d.enc]))
 (hv:W5 h false [2] false (.isl false false 1 []) (.mp 0) (.str d.Id)=some v) (hl:lnV h 1 v=some (I k))
 (r12:k=0->rowAt h (X.length+3) 1=some (1,[.sl bb g 0 g false])) (ha:k=0->appW h false 1 16 (.sl bb g 0 g false) (.isl false false 1 [.str d.Id])=some (.sl bb g2 0 g2 false,h1)) (r12':k=0->rowAt h1 (X.length+3) 1=some (1,[.sl bb g 0 g false]))
 (hs:k=0->setH h1 (X.length+3) (.row 1 [.sl bb g2 0 g2 false])=h2) (hlen:h2.length=h.length) (hk:k≠0->h2=h):
 Zb rE c21R2b ((13,.ptr n 0 0 1)::(51,d.enc)::ofr X t) h=some (.normal,[],h2):=by
 have t2:Xq h.length [] h2=h2:=ZE5 hlen;have t0:∀fr,Xq h.length fr h=h:=λfr=>ZE5 rfl
 simp only[Ga.enc,NL.enc]at r13;cases k with
 |zero=>
  have z0:(((0:Nat):Int)==0)=true:=rfl;simp only[go_sem,c21R2b,ofr,Ga.enc,NL.enc,r1,r13,hv,hl,z0,r12 rfl,ha rfl,r12' rfl,hs rfl,t0,t2]
 |succ k=>
  have z0:(((k+1:Nat):Int)==0)=false:=by rw[beq_eq_false_iff_ne];omega
  have he:=hk<|by simp
  subst he;simp only[go_sem,c21R2b,ofr,Ga.enc,NL.enc,r1,r13,hv,hl,z0,t0,t2]
def ZI4{S:List Str×List (List Str)}{bs:List Nat}{X:List AObj}(H:HB S.1 S.2 bs X)(t:AV)(d:Ga)(rg lp:AObj)(D:List Str)(tl:List AObj)(h1:D.length<=1000):
 Zb rE c21R2b ((13,.ptr (oH S bs X rg lp D++tl).length 0 0 1)::(51,d.enc)::ofr X t) ((oH S bs X rg lp D++tl)++[.row 16 [d.enc]])=some (.normal,[],(oH S bs X rg lp (oF S d D)++tl)++[.row 16 [d.enc]]):=by
 obtain⟨v,hv,hr⟩:=ZGe H d.Id (oH S bs X rg lp D) ⟨_,rfl⟩;have hh:∀D:List Str,(oH S bs X rg lp D++tl)++[.row 16 [d.enc]]=bH S.1 S.2 bs X++.row 1 (D.map encS)::(.row 1 [.sl (X.length+2) D.length 0 D.length false]::rg::lp::(tl++[.row 16 [d.enc]])):=λD=>by
  unfold oH;simp only[ZVY,ZW0,ZWb]
 have hb2:(bH S.1 S.2 bs X).length=X.length+2:=rfl;have hrD:rowAt ((oH S bs X rg lp D++tl)++[.row 16 [d.enc]]) (X.length+2) D.length=some (1,D.map encS):=by
  rw[hh];unfold rowAt;rw[<-hb2,ZEG];simp only[ZVA,beq_self_eq_true,cond_true]
 have hr12:∀o:AObj,rowAt (bH S.1 S.2 bs X++o::(.row 1 [.sl (X.length+2) D.length 0 D.length false]::rg::lp::(tl++[.row 16 [d.enc]]))) (X.length+3) 1=some (1,[.sl (X.length+2) D.length 0 D.length false]):=λo=>by
  rw[show X.length+3=(bH S.1 S.2 bs X).length+(0+1)from rfl,ZEw]
  rfl
 refine ZI3 X t d (h1:=bH S.1 S.2 bs X++.row 1 (D.map encS++[.str d.Id])::(.row 1 [.sl (X.length+2) D.length 0 D.length false]::rg::lp::(tl++[.row 16 [d.enc]]))) (k:=(ZE6 S d.Id).length) (v:=v) (bb:=X.length+2) (g:=D.length) (g2:=D.length+1) ?_ (ZGc _ _ _) ?_ ?_ ?_ ?_ ?_ ?_ ?_ ?_
 .rw[hh];rfl
 .rw[ZVY];exact hv _
 .rw[ZVY];have:=hr.1;cases tl with
  |nil=>exact this _ _
  |cons o r=>exact this _ _
 .intro _;rw[hh];exact hr12 _
 .intro _;rw[XC hrD rfl (by rfl) (by omega) (by omega) (by simp;omega)]
  rw[hh,<-hb2,ZEV];rfl
 .intro _;exact hr12 _
 .intro h0;have e:oF S d D=D++[d.Id]:=by
   unfold oF;rw[ZXm.1 h0];rfl
  rw[e,hh,show X.length+3=(bH S.1 S.2 bs X).length+(0+1)from rfl,ZFd,ZW7,ZVQ]
  rfl
 .simp[oH]
 .intro h0;have e:oF S d D=D:=by
   unfold oF;cases hl:ZE6 S d.Id with
   |nil=>rw[hl]at h0;exact absurd rfl h0
   |cons a r=>rfl
  rw[e]
def ZI5{S:List Str×List (List Str)}{bs:List Nat}{X:List AObj}(H:HB S.1 S.2 bs X)(t:AV)(d:Ga)(rg:AObj)(D:List Str)(tl:List AObj)(h1:D.length<=1000):
 U4 rE (X.length+5) [d.enc] (oH S bs X rg (oL .ready X t) D++tl)=some (.bool true,(oH S bs X rg (oL .ready X t) (oF S d D)++tl)++[.row 16 [d.enc]]):=by
 have hgl:∀(lp:AObj)D tl,(oH S bs X rg lp D++tl)[X.length+5]?=some lp:=λlp D tl=>by
  unfold oH;rw[ZVY,ZWh (by rw[ZE2];omega),ZE2,show X.length+5-(X.length+2)=3 by omega]
  rfl
 have hsl:∀(lp o:AObj)D tl,setH (oH S bs X rg lp D++tl) (X.length+5) o=oH S bs X rg o D++tl:=λlp o D tl=>by
  have hlt:X.length+5<(oH S bs X rg lp D++tl).length:=by simp[oH,ZE2];omega
  rw[ZEC hlt];unfold oH;rw[ZVY,ZXr _ _ (by rw[ZE2];omega),ZE2,show X.length+5-(X.length+2)=3 by omega]
  simp[ZVY]
 have b1:∀(lp:AObj)D o,(oH S bs X rg lp D++tl++[o])[X.length+5]?=some lp:=λlp D o=>by rw[ZVY];exact hgl _ _ _
 have b2:∀(lp lp':AObj)D o,setH (oH S bs X rg lp D++tl++[o]) (X.length+5) lp'=oH S bs X rg lp' D++tl++[o]:=λlp lp' D o=>by rw[ZVY,hsl,<-ZVY]
 have b3:Zb rE c21R2b ((13,.ptr (oH S bs X rg (oL .ready X t) D++tl).length 0 0 1)::(51,d.enc)::ofr X t) (setH (oH S bs X rg (oL .ready X t) D++tl++[.row 16 [d.enc]]) (X.length+5)<|oL .busy X t)=some (.normal,[],(oH S bs X rg (oL .busy X t) (oF S d D)++tl)++[.row 16 [d.enc]]):=by
  have:=ZI4 H t d rg (oL .busy X t) D tl h1;have hl:(oH S bs X rg (oL .ready X t) D++tl).length=(oH S bs X rg (oL .busy X t) D++tl).length:=by simp only[oH,ZVQ,ZVU]
  rw[b2,hl];exact this
 have h:=Ss (E:=rE) (b:=X.length+5) (args:=[d.enc]) (h:=oH S bs X rg (oL .ready X t) D++tl) (fr:=ofr X t) (ps:=[51]) (assign:=c21R2a) (body:=c21R2b)
  (fr0:=(51,d.enc)::ofr X t) (hgl _ _ _) rfl (ZI2 X t d _) (h1:=(oH S bs X rg (oL .ready X t) D++tl)++[.row 16 [d.enc]]) (b1 _ _ _)
  (e:=.normal) (fr2:=[]) (h2:=(oH S bs X rg (oL .busy X t) (oF S d D)++tl)++[.row 16 [d.enc]]) b3 (b1 _ _ _)
 rw[h];exact congrArg (λz=>some (AV.bool true,z))<|b2 _ _ _ _
def ZI6(d:Ga){h:Hp}{v:AV}(r1:rowAt h 1 1=some (1,[.mp 0]))(hv:W5 h false [2] false (.isl false false 1 []) (.mp 0) (.str d.Id)=some v):fnV rE 86 [d.enc,.ptr 1 0 0 1] h=some (v,h):=by
 rw[Q6 (f:=86) rfl rfl];have t0:∀fr,Xq h.length fr h=h:=λfr=>ZE5 rfl
 simp only[go_sem,c86,Ga.enc,NL.enc,r1,hv,t0]
def oC:AV:=.clo (.func 86) [] [.ptr 1 0 0 1]
def ZI7{S:List Str×List (List Str)}{bs:List Nat}{X:List AObj}(H:HB S.1 S.2 bs X)(rg lp:AObj)(D:List Str)(d:Ga)(tl:List AObj):
 ∃v,Xy rE false oC [d.enc] (oH S bs X rg lp D++tl)=some (v,oH S bs X rg lp D++tl)/\ZEl (oH S bs X rg lp D) v (ZE6 S d.Id):=by
 obtain⟨v,hv,hr⟩:=ZGe H d.Id (oH S bs X rg lp D) ⟨_,rfl⟩;refine⟨v,?_,hr⟩;unfold oC;rw[RL];exact ZI6 d rfl (hv tl)
def rG(s:Sta):AObj:=.row 8 [.agg<|grC s++[oC]]
def wkO(X:List AObj)(id:Str):AV:=.clo (.func 162) [] [.iptr false [.str id],.ptr (X.length+4) 0 0 1]
def ZI9(s:Sta)(S:List Str×List (List Str))(bs:List Nat)(X:List AObj)(lp:AObj)(D:List Str):
 GRdz (oH S bs X (rG s) lp D) (.ptr (X.length+4) 0 0 1) s oC (.ptr (X.length+4) 0 0 1) (.ptr (X.length+4) 0 3 1) (.ptr (X.length+4) 0 7 1):=by
 have hr:∀x tl,rowAt (oH S bs X (rG s) lp D++x::tl) (X.length+4) 1=some (8,[.agg<|grC s++[oC]]):=λx tl=>by
  unfold oH rowAt;rw[ZVY,ZWh (by rw[ZE2];omega),ZE2,show X.length+4-(X.length+2)=2 by omega]
  rfl
 refine⟨λx tl=>?_,λx tl=>?_,λx tl=>?_,λx tl=>?_,λx tl=>?_,λx tl=>?_,λn hn=>?_⟩
 .rw[AH,hr];rfl
 .rw[AH,hr];rfl
 .rw[Az,hr];rfl
 .rw[Az,hr];rfl
 .rw[AH,hr];rfl
 .rw[Az,hr];rfl
 .have hl:(oH S bs X (rG s) lp D).length=X.length+6:=by simp[oH,ZE2]
  have:([X.length+4]:List Nat).contains n=false:=by
   rw[hl]at hn;simp;omega
  exact⟨this,this,this⟩
def ZIa(s:Sta)(id:Str){S:List Str×List (List Str)}{bs:List Nat}{X:List AObj}(H:HB S.1 S.2 bs X){D:List Str}(R:RunsG s (λd=>ZE6 S d.Id) (oF S) (λD=>D.length<=1000) [id] [id] [] D):
 ∃tl,rf rE (wkO X id) [51] c21R2a c21R2b (ofr X<|wkO X id) (bH S.1 S.2 bs X++[.row 1 [],.row 1 [.sl (X.length+2) 0 0 0 false],rG s]) =
  some (.normal,ofr X<|wkO X id,bH S.1 S.2 bs X++[.row 1<|D.map encS,.row 1 [.sl (X.length+2) D.length 0 D.length false],rG s]++tl):=by
 have hm:∀D,(oH S bs X (rG s) (oL .ready X<|wkO X id) D).length=X.length+6:=λD=>by simp[oH,ZE2]
 obtain⟨fr,tl,h⟩:=ZI8 (s:=s) (aft:=λd=>ZE6 S d.Id) (f:=oF S) (ok:=λD=>D.length<=1000) oC (.ptr (X.length+4) 0 0 1) (.ptr (X.length+4) 0 0 1) (.ptr (X.length+4) 0 3 1) (.ptr (X.length+4) 0 7 1) (X.length+5) (X.length+6) (λD=>oH S bs X (rG s) (oL .ready X<|wkO X id) D) (λD=>ZI9 s S bs X _ D) hm
  (λd D K tl _ hD=>by
   have:=ZI5 H (wkO X id) d (rG s) D (kM K::(tl++[.row 16 [d.enc]])) hD;simpa only[ZVY,ZW0,ZWb]using this)
  (λd D K tl _=>ZI7 H _ _ D d<|kM K::tl) id R
 refine⟨.loop .exhausted .normal (ofr X<|wkO X id) [51] c21R2a c21R2b::tl,?_⟩;have e1:(bH S.1 S.2 bs X++[AObj.row 1 [],AObj.row 1 [.sl (X.length+2) 0 0 0 false],rG s]).length=X.length+5:=by simp[ZE2]
 have e2:bH S.1 S.2 bs X++[.row 1 [],.row 1 [.sl (X.length+2) 0 0 0 false],rG s]++[oL .ready X<|wkO X id]=oH S bs X (rG s) (oL .ready X<|wkO X id) []:=by
  unfold oH;rw[ZVY];rfl
 have e3:(oH S bs X (rG s) (oL .ready X<|wkO X id) D++tl)[X.length+5]?=some (oL .ready X<|wkO X id):=by
  unfold oH;rw[ZVY,ZWh (by rw[ZE2];omega),ZE2,show X.length+5-(X.length+2)=3 by omega]
  rfl
 have e4:∀o,setH (oH S bs X (rG s) (oL .ready X<|wkO X id) D++tl) (X.length+5) o=oH S bs X (rG s) o D++tl:=λo=>by
  have hlt:X.length+5<(oH S bs X (rG s) (oL .ready X<|wkO X id) D++tl).length:=by simp[oH,ZE2];omega
  rw[ZEC hlt];unfold oH;rw[ZVY,ZXr _ _ (by rw[ZE2];omega),ZE2,show X.length+5-(X.length+2)=3 by omega]
  simp[ZVY]
 have e5:rf rE (wkO X id) [51] c21R2a c21R2b (ofr X<|wkO X id) (bH S.1 S.2 bs X++[.row 1 [],.row 1 [.sl (X.length+2) 0 0 0 false],rG s])=J0 (ofr X<|wkO X id) (X.length+5) (fnd []<|Zb rE c162 (QP 0<|[]++[.yld<|X.length+5]++[.iptr false [.str id],AV.ptr (X.length+4) 0 0 1])<|oH S bs X (rG s) (oL .ready X<|wkO X id) []):=by
  rw[<-e2,<-e1];unfold oL
  conv=>lhs;arg 2;unfold wkO
  exact Z1k (E:=rE) (g:=162) (first:=[]) (cap:=[.iptr false [.str id],AV.ptr (X.length+4) 0 0 1]) (c:=c162) (rs:=[]) rfl
 rw[e5,h];show J0 _ _ (some (.tup [],_))=_
 rw[Za3,e3];show some (AExit.normal,ofr X<|wkO X id,setH (oH S bs X (rG s) (oL .ready X<|wkO X id) D++tl) (X.length+5) _)=_
 rw[e4];unfold oH;simp only[ZVY,ZW0,ZWb]
def ZIb(s:Sta)(id:Str)(h:Hp):fnV rE 78 [.agg<|grC s++[oC],.str id] h=some (.clo (.func 162) [] [.iptr false [.str id],.ptr h.length 0 0 1],h++[rG s]):=by
 rw[Q6 (f:=78) rfl rfl];have hi:Va h 8 (.agg<|grC s++[oC])=some (.ptr h.length 0 0 1,h++[rG s]):=rfl;have ht:Xq h.length [(2,AV.ptr h.length 0 0 1),(3,.iptr false [.str id])] (h++[rG s])=h++[rG s]:=by
  have hn:Nat.blt h.length h.length=false:=by rw[ZWx];simp[ZWo]
  have e:Zd h.length ([(2,AV.ptr h.length 0 0 1),(3,AV.iptr false [.str id])].map (λ(p:Nat×AV)=>p.2))=false:=by simp[Zd,bel,hn]
  unfold Xq;rw[e];rfl
 simp only[go_sem,c78,hi,ht]
def ZIc{D D2:List AV}(hD:ZE7 80 [ZEa 80] 1 D=some D2){h:Hp}{b:Nat}(hb:h[b]?=some (.row 1 D)):
 fnV rE 79 [.sl b D.length 0 D.length false,.clo (.func 80) [] []] h=some (.sl b D.length 0 D.length false,setH h b<|.row 1 D2):=by
 rw[V8 (s:=ZEo<|ZE7 80) rfl];unfold ZEo ZE8;simp only[hb,beq_self_eq_true,ZWd,cond_true];have hD':ZE7 80 [.clo (.func 80) [] []] 1 D=some D2:=hD;rw[hD'];rfl
def ZId(s:Sta)(id:Str)(D D2:List Str)(hc:pfn rE 76 [stA s,.str id]=some (I 0))(hk:s.Bc.length<=500)(hL:∀d∈s.Bc,d.After.l.length<=1000)
 (R:RunsG s (λd=>ZE6 (ZDX s.Bc) d.Id) (oF<|ZDX s.Bc) (λD=>D.length<=1000) [id] [id] [] D) (hD:ZE7 80 [ZEa 80] 1 (D.map encS)=some (D2.map encS)) (hDl:D2.length=D.length):
 pfn rE 21 [stA s,.str id]=some (.tup [.isl false false 1<|D2.map encS,I 0]):=by
 obtain⟨fr1,bs,X0,ho,H0,r1⟩:=ZI1 (.str id) (.iptr false<|grC s) (.isl false false 1 []) (I 0) s.Bc false false hk hL;have ho:Zg rE [1,2,4,5,7,22,23,24] c21L1b _ [.map [] [],.row 1 [.mp 0]]=_:=ho;obtain⟨X,q1,H,_,_⟩:=ZFg H0 0 [(1,.str id),(2,.iptr false<|grC s),(4,.isl false false 1 []),(5,I 0),(7,.ptr 1 0 0 1)];obtain⟨tl,hr⟩:=ZIa s id H R;have hw:=ZIb s id;have h00:((0:Int) != 0)=false:=rfl;simp only[stA]at hc;simp only[grC]at ho r1 q1;have hb:∀h,GL h 1 .nilmap=some (.ptr h.length 0 0 1,h++[.row 1 [.nilmap]]):=λh=>rfl
 have hst:stE 0 1 (.mp 0) .nilmap=some (.mp 0):=rfl;rw[Z5 (f:=21) rfl rfl];have n1:X.length+2+1=X.length+3:=rfl;have n2:X.length+3+1=X.length+4:=rfl;have hap:∀o p:AObj,bH (ZDX s.Bc).1 (ZDX s.Bc).2 bs X++[o]++[p]=bH (ZDX s.Bc).1 (ZDX s.Bc).2 bs X++[o,p]:=λo p=>by simp
 have hap3:∀o p q:AObj,bH (ZDX s.Bc).1 (ZDX s.Bc).2 bs X++[o,p]++[q]=bH (ZDX s.Bc).1 (ZDX s.Bc).2 bs X++[o,p,q]:=λo p q=>by simp
 have hl2:∀o p:AObj,(bH (ZDX s.Bc).1 (ZDX s.Bc).2 bs X++[o,p]).length=X.length+4:=λo p=>by simp[ZE2]
 have hl3:∀o p q:AObj,(bH (ZDX s.Bc).1 (ZDX s.Bc).2 bs X++[o,p,q]).length=X.length+5:=λo p q=>by simp[ZE2]
 have ht50:∀a b c d i h,Xq (X.length+4) [(4,a),(5,b),(7,c),(12,d),(50,AV.clo (.func 162) [] [i,.ptr (X.length+4) 0 0 1])] h=h:=λa b c d i h=>by
  have hn:Nat.blt (X.length+4) (X.length+4)=false:=by rw[ZWx];simp[ZWo]
  have e:Zd (X.length+4) ([(4,a),(5,b),(7,c),(12,d),(50,AV.clo (.func 162) [] [i,.ptr (X.length+4) 0 0 1])].map (λ(p:Nat×AV)=>p.2))=false:=by simp[Zd,bel,hn]
  unfold Xq;rw[e];rfl
 obtain⟨tl2,hq⟩:=ZGf (bH (ZDX s.Bc).1 (ZDX s.Bc).2 bs X++[.row 1<|D.map encS,.row 1 [.sl (X.length+2) D.length 0 D.length false],rG s]) tl (X.length+5) [(12,.ptr (X.length+3) 0 0 1)]<|by simp[ZE2]
 have hbl:(bH (ZDX s.Bc).1 (ZDX s.Bc).2 bs X).length=X.length+2:=rfl;have hg2:∀(o:AObj)Z,(bH (ZDX s.Bc).1 (ZDX s.Bc).2 bs X++o::Z)[X.length+2]?=some o:=λo Z=>by rw[<-hbl,ZEG]
 have hh:∀o p q:AObj,bH (ZDX s.Bc).1 (ZDX s.Bc).2 bs X++[o,p,q]++tl2=bH (ZDX s.Bc).1 (ZDX s.Bc).2 bs X++o::p::q::tl2:=λo p q=>by simp
 have hr12:∀o q:AObj,rowAt (bH (ZDX s.Bc).1 (ZDX s.Bc).2 bs X++[o,.row 1 [.sl (X.length+2) D.length 0 D.length false],q]++tl2) (X.length+3) 1=some (1,[.sl (X.length+2) D.length 0 D.length false]):=λo q=>by
  rw[hh,show X.length+3=(bH (ZDX s.Bc).1 (ZDX s.Bc).2 bs X).length+(0+1)from rfl,ZEw]
  rfl
 have h36:=ZIc hD (h:=bH (ZDX s.Bc).1 (ZDX s.Bc).2 bs X++[.row 1<|D.map encS,.row 1 [.sl (X.length+2) D.length 0 D.length false],rG s]++tl2) (b:=X.length+2)<|by rw[hh,hg2]
 have hset:∀o,setH (bH (ZDX s.Bc).1 (ZDX s.Bc).2 bs X++[.row 1<|D.map encS,.row 1 [.sl (X.length+2) D.length 0 D.length false],rG s]++tl2) (X.length+2) o=bH (ZDX s.Bc).1 (ZDX s.Bc).2 bs X++[o,.row 1 [.sl (X.length+2) D.length 0 D.length false],rG s]++tl2:=λo=>by
  rw[hh,hh,<-hbl,ZEV]
 rw[ZVA,hset]at h36;have t3:∀fr o,Xq (X.length+5+tl2.length) fr (bH (ZDX s.Bc).1 (ZDX s.Bc).2 bs X++[o,.row 1 [.sl (X.length+2) D.length 0 D.length false],rG s]++tl2)=bH (ZDX s.Bc).1 (ZDX s.Bc).2 bs X++[o,.row 1 [.sl (X.length+2) D.length 0 D.length false],rG s]++tl2:=λfr o=>ZE5<|by simp[ZE2];omega
 have hrw:rowAt (bH (ZDX s.Bc).1 (ZDX s.Bc).2 bs X++[.row 1<|D2.map encS,.row 1 [.sl (X.length+2) D.length 0 D.length false],rG s]++tl2) (X.length+2) D.length=some (1,D2.map encS):=by
  unfold rowAt;rw[hh,hg2];simp only[ZVA,hDl,beq_self_eq_true,cond_true]
 have t1:(D2.map encS).take D.length=D2.map encS:=ZW5<|by rw[ZVA,hDl];exact ZVF _
 have f1:∀h n,ZC false h (n+1) (D2.map encS)=some (D2.map encS):=λh n=>by simp only[ZC,ZET,cond_true]
 have f1:=λh=>f1 h 36
 simp only[Nat.reduceAdd]at f1;have hg3:∀o q:AObj,(bH (ZDX s.Bc).1 (ZDX s.Bc).2 bs X++[o,.row 1 [.sl (X.length+2) D.length 0 D.length false],q]++tl2)[X.length+2]?=some o:=λo q=>by rw[hh,hg2]
 simp only[grC,oC,ZW0,ZWb]at hw;simp only[wkO,ofr]at hr;simp only[go_sem,c21,c21L1,stA,hc,h00,hb,hst,ho,r1,q1,put,ZE2,n1,n2,hap,hw,hap3,hl2,Sr,hr,hl3,ht50,hq,hr12,h36,t3,hrw,t1,f1]
def ZEr(S:List Str×List (List Str))(Q:List Ga):List Str:=(Q.filter λd=>(ZE6 S d.Id).isEmpty).map (·.Id)
def ZIf(S:List Str×List (List Str))(d:Ga)(Q:List Ga):oF S d (ZEr S Q)=ZEr S (Q++[d]):=by
 unfold oF ZEr;rw[ZYs,ZW7];cases c:(ZE6 S d.Id).isEmpty<;>simp[List.filter,c]
def ZIi{s:Sta}{x y z:Str}(h1:Reach s x y)(h2:Reach s y z):Reach s x z:=by
 induction h2 with
 |refl=>exact h1
 |step _ w e _ hd hi hz ih=>exact Reach.step _ _ _ e ih hd hi hz
def ZJw{K:List Str}{x:Str}{j:Nat}(h:K.findIdx? (Z3 x)=some j):K[j]?=some x:=by
 obtain⟨hj,h1,_⟩:=List.findIdx?_eq_some_iff_getElem.1 h;rw[ZVH hj,(Ky _ _).1 h1]
def ZJD{S:List Str×List (List Str)}(hl:S.2.length=S.1.length)(x d y z:Str):z∈ZE6 (ZDY S x d) y↔z∈ZE6 S y\/(y=x/\z=d):=by
 unfold ZDY ZE6;cases hx:S.1.findIdx? (Z3 x)with
 |some j=>
  have hj:=ZJw hx;have hjl:=(ZVK.1 hj).1;dsimp only;cases hy:S.1.findIdx? (Z3 y)with
  |some i=>
   have hi:=ZJw hy;dsimp only;by_cases c:i=j
   .subst c;have hxy:y=x:=by rw[hj]at hi;exact(Option.some.inj hi).symm
    rw[ZXz (by omega),ZWZ,ZW8,ZW2]
    simp[hxy]
   .have hxy:y≠x:=λe=>c (by rw[e,hx]at hy;exact(Option.some.inj hy).symm)
    rw[ZXq<|λe=>c e.symm]
    simp[hxy]
  |none=>
   have hxy:y≠x:=λe=>by rw[e,hx]at hy;cases hy
   simp[hxy]
 |none=>
  dsimp only;rw[List.findIdx?_append];cases hy:S.1.findIdx? (Z3 y)with
  |some i=>
   have hi:=(ZVK.1<|ZJw hy).1;have hxy:y≠x:=λe=>by rw[e,hx]at hy;cases hy
   simp only[Option.some_or];rw[ZWc<|by omega]
   simp[hxy]
  |none=>
   simp only[Option.none_or];by_cases c:y=x
   .subst c;have e:Z3 y y=true:=ZJC y;simp[ZYu,e,<-hl]
   .have e:Z3 y x=false:=by
     cases h:Z3 y x with
     |false=>rfl
     |true=>exact absurd ((Ky _ _).1 h) c
    simp[ZYu,e,c]
def ZJE{S:List Str×List (List Str)}(hl:S.2.length=S.1.length)(x d:Str):(ZDY S x d).2.length=(ZDY S x d).1.length:=by
 unfold ZDY;split
 .simpa using hl
 .simp[hl]
def ZJx(d:Str):∀(L:List Str)(S:List Str×List (List Str)),S.2.length=S.1.length->(ZE0 d S L).2.length=(ZE0 d S L).1.length/\∀y z,z∈ZE6 (ZE0 d S L) y↔z∈ZE6 S y\/(y∈L/\z=d)
 |[],S,hl=>⟨hl,λy z=>by simp[ZE0]⟩
 |x::L,S,hl=>by
  obtain⟨h1,h2⟩:=ZJx d L (ZDY S x d)<|ZJE hl x d;refine⟨h1,λy z=>?_⟩
  show z∈ZE6 (ZE0 d (ZDY S x d) L) y↔_
  rw[h2,ZJD hl,ZVX];constructor
  .rintro((h|⟨h,e⟩)|⟨h,e⟩)
   .exact .inl h
   .exact .inr ⟨.inl h,e⟩
   .exact .inr ⟨.inr h,e⟩
  .rintro(h|⟨h|h,e⟩)
   .exact .inl<|.inl h
   .exact .inl<|.inr ⟨h,e⟩
   .exact .inr ⟨h,e⟩
def ZJy:∀(ds:List Ga)(S:List Str×List (List Str)),S.2.length=S.1.length->∀y z,z∈ZE6 (ds.foldl ZE3 S) y↔z∈ZE6 S y\/∃c∈ds,c.Id=z/\y∈c.After.l
 |[],S,hl,y,z=>by simp
 |d::ds,S,hl,y,z=>by
  obtain⟨h1,h2⟩:=ZJx d.Id d.After.l S hl;rw[ZWI,ZJy ds (ZE3 S d) h1];show z∈ZE6 (ZE0 d.Id S d.After.l) y\/_↔_
  rw[h2];constructor
  .rintro((h|⟨h,e⟩)|⟨c,hc,h⟩)
   .exact .inl h
   .exact .inr ⟨d,ZWl,e.symm,h⟩
   .exact .inr ⟨c,ZWC _ hc,h⟩
  .rintro(h|⟨c,hc,e,h⟩)
   .exact .inl<|.inl h
   .rcases ZVX.1 hc with rfl|hc
    .exact .inl<|.inr ⟨h,e.symm⟩
    .exact .inr ⟨c,hc,e,h⟩
def ZJv(ds:List Ga)(y z:Str):z∈ZE6 (ZDX ds) y↔∃c∈ds,c.Id=z/\y∈c.After.l:=by
 unfold ZDX;rw[ZJy ds _ rfl];constructor
 .rintro(h|h)
  .exact absurd h<|by simp[ZE6]
  .exact h
 .exact .inr
def ZJF{S:List Str×List (List Str)}{c:Nat}(h:∀A∈S.2,A.length<=c)(x:Str):(ZE6 S x).length<=c:=by
 unfold ZE6;split
 .rename_i j _;cases hj:S.2[j]? with
  |none=>simp
  |some A=>exact h A<|ZVN hj
 .simp
def ZJz{σ:Type}(s:Sta)(hp:Prop' s)(hs:StE s)(hN:s.Bc.length<=500)(aft:Ga->List Str)(haft:∀d∈s.Bc,∀y∈aft d,∃e∈s.Bc,e.Id=y)(hal:∀d∈s.Bc,(aft d).length<=900000)(f:Ga->σ->σ)(ok:σ->Prop)(X:List Ga->σ)(hX:∀d Q,f d (X Q)=X (Q++[d]))(hok:∀Q,Q.length<=500->ok (X Q))
 (R:Str->Prop) (hRs:∀d∈s.Bc,R d.Id->∀y∈aft d,R y):∀(n:Nat)(P:List Ga)(L:List Str),s.Bc.length<=P.length+n->(∀d∈P,d∈s.Bc)->(P.map (·.Id)++L).Nodup->(∀x∈L,∃d∈s.Bc,d.Id=x)->
 (∀x∈P.map (·.Id)++L,R x)->(∀d∈P,∀y∈aft d,y∈P.map (·.Id)++L)->
 ∃Q,RunsG s aft f ok (P.map (·.Id)++L) L (X P) (X Q)/\(Q.map (·.Id)).Nodup/\(∀d∈Q,d∈s.Bc)/\(∀d∈Q,R d.Id)/\(∀d∈Q,∀y∈aft d,y∈Q.map (·.Id))/\(∀x∈P.map (·.Id)++L,x∈Q.map (·.Id))
 |n,P,[],_,hP,hn,_,hR,hA=>by
  rw[ZWS]at hn hR hA⊢;exact⟨P,RunsG.stop _ _,hn,hP,λd hd=>hR _<|ZX0 hd,hA,λx hx=>hx⟩
 |n,P,x::r,hle,hP,hn,hL,hR,hA=>by
  have hsub:∀y∈P.map (·.Id)++x::r,y∈s.Bc.map (·.Id):=λy hy=>by
   rcases ZW8.1 hy with h|h
   .obtain⟨d,hd,rfl⟩:=ZWf.1 h;exact ZX0<|hP d hd
   .obtain⟨d,hd,rfl⟩:=hL y h;exact ZX0 hd
  have hlen:=ZF6 _ _ hn hsub;simp only[ZVQ,ZVA,ZVU]at hlen;obtain⟨d,hd,hid⟩:=hL x ZWl;obtain⟨k,hk⟩:=ZWE hd;have hf:pfn rE 12 [stA s,.str x]=some (I k):=by
   rw[find_ok s hs.sizes x,ZEz,<-hid,Zi1 (ZEF hp) hk]
  cases n with
  |zero=>omega
  |succ n=>
   obtain⟨new,w1,w2,w3,w4⟩:=ZF7 (aft d) (P.map (·.Id)++x::r)<|x::r;have eK:(P++[d]).map (·.Id)++(r++new)=P.map (·.Id)++x::r++new:=by simp[hid]
   obtain⟨Q,q1,q2,q3,q4,q5,q6⟩:=ZJz s hp hs hN aft haft hal f ok X hX hok R hRs n (P++[d]) (r++new) (by simp;omega)
    (λe he=>by
     rcases ZW8.1 he with h|h
     .exact hP e h
     .rw[ZW2.1 h];exact hd)
    (by rw[eK];exact w4 hn)
    (λy hy=>by
     rcases ZW8.1 hy with h|h
     .exact hL y<|ZWC _ h
     .exact haft d hd y<|w2 y h)
    (λy hy=>by
     rw[eK]at hy;rcases ZW8.1 hy with h|h
     .exact hR y h
     .exact hRs d hd (hid▸hR x (by simp)) y<|w2 y h)
    (λe he y hy=>by
     rw[eK];rcases ZW8.1 he with h|h
     .exact ZWR _<|hA e h y hy
     .rw[ZW2.1 h]at hy;exact w3 y hy)
   refine⟨Q,?_,q2,q3,q4,q5,λy hy=>q6 y<|by rw[eK];exact ZWR _ hy⟩
   refine RunsG.step _ x r _ _ k d hk hf (hok P<|by omega) ?_ ?_
   .have:=hal d hd;simp only[ZVU];omega
   .rw[w1,hX,<-eK];exact q1
structure IsOrg(s:Sta)(id:Str)(D:List Str):Prop where
 ds:D.Pairwise ltS
 dm:∀x,x∈D↔∃d∈s.Bc,d.Id=x/\(∀c∈s.Bc,x ∉ c.After.l)/\Reach s x id
 dl:D.length<=500
def ZJG(s:Sta)(hp:Jx s=true)(hs:StE s)(hN:s.Bc.length<=500)(id:Str)(hid:decide (Zn s id<0)=false):∃D,pfn rE 21 [stA s,.str id]=some (.tup [.isl false false 1<|D.map encS,I 0])/\IsOrg s id D:=by
 have hp':=((Zdb s).1 hp).1;have hc:=Zpq s hs id;have hk0:ZEb s id=0:=by unfold ZEb;rw[hp,hid];rfl
 rw[hk0]at hc;have hal:∀d∈s.Bc,d.After.l.length<=1000:=λd hd=>by have:=(hs.doors d hd).after;omega
 have hid':=hid;rw[ZEz]at hid';obtain⟨j,e,_,h4,h5⟩:=ZcU hid';obtain⟨Q,q1,q2,q3,q4,q5,q6⟩:=ZJz s hp' hs hN (λd=>ZE6 (ZDX s.Bc) d.Id) (λd hd y hy=>by
  obtain⟨c,hc,hci,_⟩:=(ZJv _ _ _).1 hy;exact⟨c,hc,hci⟩) (λd hd=>by
  have h1:=ZGd s.Bc (S:=([],[])) (c:=0) (λA hA=>by cases hA) hal
  have h2:=ZJF h1 d.Id;exact ZWH h2<|by omega) (oF<|ZDX s.Bc) (λD=>D.length<=1000) (ZEr<|ZDX s.Bc) (ZIf<|ZDX s.Bc) (λQ hQ=>by
  unfold ZEr;rw[ZVA];have:=ZXp (λd:Ga=>(ZE6 (ZDX s.Bc) d.Id).isEmpty) Q
  omega) (λy=>Reach s y id) (λd hd hR y hy=>by
  obtain⟨c,hc,rfl,hca⟩:=(ZJv _ _ _).1 hy;exact ZIi (Reach.step _ _ _ c (Reach.refl _) hc rfl hca) hR) s.Bc.length [] [id] (by simp) (λd hd=>by cases hd) (by simp) (λx hx=>⟨e,ZVN h4,by rw[ZW2.1 hx];exact h5⟩)
  (λx hx=>by rw[ZW2.1 hx];exact Reach.refl id) (λd hd=>by cases hd)
 have hQ:Q.length<=500:=by
  have:=ZF6 (Q.map (·.Id)) (s.Bc.map (·.Id)) q2 (λx hx=>by obtain⟨d,hd,rfl⟩:=ZWf.1 hx;exact ZX0<|q3 d hd)
  simp only[ZVA]at this;omega
 have hall:∀x z,Reach s x z->z∈Q.map (·.Id)->x∈Q.map (·.Id):=λx z h=>by
  induction h with
  |refl=>exact λh=>h
  |step y z d h hd hi hz ih=>
   intro hm;obtain⟨c,hc,rfl⟩:=ZWf.1 hm;exact ih<|q5 c hc y<|(ZJv _ _ _).2 ⟨d,hd,hi,hz⟩
 have hD:(ZEr (ZDX s.Bc) Q).length<=500:=by
  unfold ZEr;rw[ZVA];have:=ZXp (λd:Ga=>(ZE6 (ZDX s.Bc) d.Id).isEmpty) Q
  omega
 have hnd:(ZEr (ZDX s.Bc) Q).Nodup:=q2.sublist<|(ZYt).map _;have hpm:=ZES<|ZEr (ZDX s.Bc) Q;have hr:=ZId s id _ _ hc hN hal q1 (ZFb _<|by omega) hpm.length_eq
 refine⟨_,hr,ZHr _ hnd,λx=>?_,by rw[hpm.length_eq];exact hD⟩
 rw[hpm.mem_iff];unfold ZEr;rw[ZWf];constructor
 .rintro⟨d,hd,rfl⟩;obtain⟨h1,h2⟩:=ZXe.1 hd;refine⟨d,q3 d h1,rfl,λc hc hm=>?_,q4 d h1⟩
  have:=(ZJv s.Bc d.Id c.Id).2 ⟨c,hc,rfl,hm⟩;rw[ZXl.1 h2]at this;cases this
 .rintro⟨d,hd,rfl,h1,h2⟩;obtain⟨d',hd',he⟩:=ZWf.1 (hall _ _ h2<|q6 id<|by simp)
  have:d'=d:=ZFX (ZEF hp') (q3 d' hd') hd he;subst this;refine⟨d',ZXe.2 ⟨hd',?_⟩,rfl⟩;rw[ZXl,List.eq_nil_iff_forall_not_mem];intro c hc;obtain⟨b,hb,_,hba⟩:=(ZJv _ _ _).1 hc;exact h1 b hb hba
def ZJJ(s:Sta)(hs:StE s)(id:Str)(h:ZEb s id≠0):∃ex,pfn rE 21 [stA s,.str id]=some (.tup [.isl false ex 1 [],I<|ZEb s id]):=by
 have hc:=Zpq s hs id;simp only[stA]at hc;have h0:(ZEb s id != 0)=true:=by rw[bne_iff_ne];exact h
 refine⟨false,?_⟩;rw[Z5 (f:=21) rfl rfl];generalize ZEb s id=e at hc h0⊢;simp only[go_sem,c21,stA,hc,h0]
def WQ(x:Gk):Bool:=[x.Id].all ZU&&(XQ x.bk.l&&(!decide ((x.Ring.l.length:Int)>12)))
def WR(x:By):Bool:=[x.Id].all ZU&&(XQ x.bk.l&&(!decide ((x.Line.l.length:Int)>12)))
def WS(x:Ev):Bool:=[x.Id].all ZU&&(!decide ((x.Ring.l.length:Int)>12))
def WT(x:Ga):Bool:=[x.Id,x.Ev,x.By,x.An.bm,x.Veil].all ZU&&(!decide ((x.After.l.length:Int)>10)&&(x.After.l.all ZU))
def WU(x:be):Bool:=[x.Id,x.Ga,x.Text].all ZU
def Z4A(s:Sta)(hl:s.Fa.length<=1000):∃fr',Zg rE [1,3] c30L0b [(1,stI s),(3,.int .i64 0)] []=some (if s.Fa.all WQ=true then .exit 0 else .ret,fr',[])/\(s.Fa.all WQ=true->get fr' 1=stI s/\get fr' 2=.bot)/\(s.Fa.all WQ=false->get fr' 2=.bool false):=by
 have L:=QT (E:=rE) (live:=[1,3]) (b:=c30L0b) (h:=[]) s.Fa (λ_ x=>WQ x) (λi=>[(1,stI s),(3,I i)]) 0 (λfr=>get fr 1=stI s/\get fr 2=.bot) (λfr=>get fr 2=.bool false) (λi=>rfl)
  (λi x hx hP=>by
   have hg:=Z6 (f:=Gk.enc) hx;have hi:=Zh<|Z7 hx;have hw:=Zx (n:=i) (by have:=Z7 hx;omega)
   have hS:=JK x.Id;have hN:=UQ x.bk.ex x.bk.l;simp only[WQ,ZVB,ZVW]at hP;obtain⟨p0,p1,p2⟩:=hP;rw[p0]at hS;rw[p1]at hN;refine⟨_,by simp only[go_sem,c30L0b,hg,hi,hw,Gk.enc,NL.enc,hS,hN,p2];rfl,?_⟩
   simp only[go_sem])
  (λi x hx hP=>by
   have hg:=Z6 (f:=Gk.enc) hx;have hi:=Zh<|Z7 hx;have hS:=JK x.Id;have hN:=UQ x.bk.ex x.bk.l;unfold WQ at hP;cases c0:[x.Id].all ZU with
   |false=>
    rw[c0]at hS;refine⟨_,by simp only[go_sem,c30L0b,hg,hi,Gk.enc,NL.enc,hS];rfl,?_⟩
    simp only[go_sem]
   |true=>
   rw[c0]at hS hP;cases c1:XQ x.bk.l with
   |false=>
    rw[c1]at hN;refine⟨_,by simp only[go_sem,c30L0b,hg,hi,Gk.enc,NL.enc,hS,hN];rfl,?_⟩
    simp only[go_sem]
   |true=>
   rw[c1]at hN hP;cases c2:decide ((x.Ring.l.length:Int)>12)with
   |true=>
    refine⟨_,by simp only[go_sem,c30L0b,hg,hi,Gk.enc,NL.enc,hS,hN,c2];rfl,?_⟩
    simp only[go_sem]
   |false=>
   rw[c2]at hP;cases hP)
  (⟨_,by simp only[go_sem,c30L0b,ZG];rfl,by simp only[go_sem],by simp only[go_sem]⟩)
 rw[QE]at L;exact L
def Z4B(s:Sta)(hl:s.Gm.length<=1000):∃fr',Zg rE [1,4] c30L1b [(1,stI s),(4,.int .i64 0)] []=some (if s.Gm.all WR=true then .exit 2 else .ret,fr',[])/\(s.Gm.all WR=true->get fr' 1=stI s/\get fr' 2=.bot)/\(s.Gm.all WR=false->get fr' 2=.bool false):=by
 have L:=QT (E:=rE) (live:=[1,4]) (b:=c30L1b) (h:=[]) s.Gm (λ_ x=>WR x) (λi=>[(1,stI s),(4,I i)]) 2 (λfr=>get fr 1=stI s/\get fr 2=.bot) (λfr=>get fr 2=.bool false) (λi=>rfl)
  (λi x hx hP=>by
   have hg:=Z6 (f:=By.enc) hx;have hi:=Zh<|Z7 hx;have hw:=Zx (n:=i) (by have:=Z7 hx;omega)
   have hS:=JK x.Id;have hN:=UQ x.bk.ex x.bk.l;simp only[WR,ZVB,ZVW]at hP;obtain⟨p0,p1,p2⟩:=hP;rw[p0]at hS;rw[p1]at hN;refine⟨_,by simp only[go_sem,c30L1b,hg,hi,hw,By.enc,NL.enc,hS,hN,p2];rfl,?_⟩
   simp only[go_sem])
  (λi x hx hP=>by
   have hg:=Z6 (f:=By.enc) hx;have hi:=Zh<|Z7 hx;have hS:=JK x.Id;have hN:=UQ x.bk.ex x.bk.l;unfold WR at hP;cases c0:[x.Id].all ZU with
   |false=>
    rw[c0]at hS;refine⟨_,by simp only[go_sem,c30L1b,hg,hi,By.enc,NL.enc,hS];rfl,?_⟩
    simp only[go_sem]
   |true=>
   rw[c0]at hS hP;cases c1:XQ x.bk.l with
   |false=>
    rw[c1]at hN;refine⟨_,by simp only[go_sem,c30L1b,hg,hi,By.enc,NL.enc,hS,hN];rfl,?_⟩
    simp only[go_sem]
   |true=>
   rw[c1]at hN hP;cases c2:decide ((x.Line.l.length:Int)>12)with
   |true=>
    refine⟨_,by simp only[go_sem,c30L1b,hg,hi,By.enc,NL.enc,hS,hN,c2];rfl,?_⟩
    simp only[go_sem]
   |false=>
   rw[c2]at hP;cases hP)
  (⟨_,by simp only[go_sem,c30L1b,ZG];rfl,by simp only[go_sem],by simp only[go_sem]⟩)
 rw[QE]at L;exact L
def Z4C(s:Sta)(hl:s.Bt.length<=1000):∃fr',Zg rE [1,5] c30L2b [(1,stI s),(5,.int .i64 0)] []=some (if s.Bt.all WS=true then .exit 4 else .ret,fr',[])/\(s.Bt.all WS=true->get fr' 1=stI s/\get fr' 2=.bot)/\(s.Bt.all WS=false->get fr' 2=.bool false):=by
 have L:=QT (E:=rE) (live:=[1,5]) (b:=c30L2b) (h:=[]) s.Bt (λ_ x=>WS x) (λi=>[(1,stI s),(5,I i)]) 4 (λfr=>get fr 1=stI s/\get fr 2=.bot) (λfr=>get fr 2=.bool false) (λi=>rfl)
  (λi x hx hP=>by
   have hg:=Z6 (f:=Ev.enc) hx;have hi:=Zh<|Z7 hx;have hw:=Zx (n:=i) (by have:=Z7 hx;omega)
   have hS:=JK x.Id;simp only[WS,ZVB,ZVW]at hP;obtain⟨p0,p1⟩:=hP;rw[p0]at hS;refine⟨_,by simp only[go_sem,c30L2b,hg,hi,hw,Ev.enc,NL.enc,hS,p1];rfl,?_⟩
   simp only[go_sem])
  (λi x hx hP=>by
   have hg:=Z6 (f:=Ev.enc) hx;have hi:=Zh<|Z7 hx;have hS:=JK x.Id;unfold WS at hP;cases c0:[x.Id].all ZU with
   |false=>
    rw[c0]at hS;refine⟨_,by simp only[go_sem,c30L2b,hg,hi,Ev.enc,NL.enc,hS];rfl,?_⟩
    simp only[go_sem]
   |true=>
   rw[c0]at hS hP;cases c2:decide ((x.Ring.l.length:Int)>12)with
   |true=>
    refine⟨_,by simp only[go_sem,c30L2b,hg,hi,Ev.enc,NL.enc,hS,c2];rfl,?_⟩
    simp only[go_sem]
   |false=>
   rw[c2]at hP;cases hP)
  (⟨_,by simp only[go_sem,c30L2b,ZG];rfl,by simp only[go_sem],by simp only[go_sem]⟩)
 rw[QE]at L;exact L
def Z4D(s:Sta)(hl:s.Bc.length<=1000):∃fr',Zg rE [1,6] c30L3b [(1,stI s),(6,.int .i64 0)] []=some (if s.Bc.all WT=true then .exit 6 else .ret,fr',[])/\(s.Bc.all WT=true->get fr' 1=stI s/\get fr' 2=.bot)/\(s.Bc.all WT=false->get fr' 2=.bool false):=by
 have L:=QT (E:=rE) (live:=[1,6]) (b:=c30L3b) (h:=[]) s.Bc (λ_ x=>WT x) (λi=>[(1,stI s),(6,I i)]) 6 (λfr=>get fr 1=stI s/\get fr 2=.bot) (λfr=>get fr 2=.bool false) (λi=>rfl)
  (λi x hx hP=>by
   have hg:=Z6 (f:=Ga.enc) hx;have hi:=Zh<|Z7 hx;have hw:=Zx (n:=i) (by have:=Z7 hx;omega)
   have hS:=FQ x.Id x.Ev x.By x.An.bm x.Veil;simp only[WT,ZVB,ZVW]at hP;obtain⟨p0,p1,p2⟩:=hP;rw[p0]at hS;have hA:=Vv false x.After.ex x.After.l (by have:=of_decide_eq_false p1;omega)
   rw[p2]at hA;refine⟨_,by simp only[go_sem,c30L3b,hg,hi,hw,Ga.enc,NL.enc,hS,p1,hA];rfl,?_⟩
   simp only[go_sem])
  (λi x hx hP=>by
   have hg:=Z6 (f:=Ga.enc) hx;have hi:=Zh<|Z7 hx;have hS:=FQ x.Id x.Ev x.By x.An.bm x.Veil;unfold WT at hP;cases c0:[x.Id,x.Ev,x.By,x.An.bm,x.Veil].all ZU with
   |false=>
    rw[c0]at hS;refine⟨_,by simp only[go_sem,c30L3b,hg,hi,Ga.enc,NL.enc,hS];rfl,?_⟩
    simp only[go_sem]
   |true=>
   rw[c0]at hS hP;cases c2:decide ((x.After.l.length:Int)>10)with
   |true=>
    refine⟨_,by simp only[go_sem,c30L3b,hg,hi,Ga.enc,NL.enc,hS,c2];rfl,?_⟩
    simp only[go_sem]
   |false=>
   rw[c2]at hP;have hA:=Vv false x.After.ex x.After.l (by have:=of_decide_eq_false c2;omega)
   cases c5003:x.After.l.all ZU with
   |false=>
    rw[c5003]at hA;refine⟨_,by simp only[go_sem,c30L3b,hg,hi,Ga.enc,NL.enc,hS,c2,hA];rfl,?_⟩
    simp only[go_sem]
   |true=>rw[c5003]at hP;cases hP)
  (⟨_,by simp only[go_sem,c30L3b,ZG];rfl,by simp only[go_sem],by simp only[go_sem]⟩)
 rw[QE]at L;exact L
def Z4E(s:Sta)(hl:s.Nk.length<=1000):∃fr',Zg rE [1,8] c30L4b [(1,stI s),(8,.int .i64 0)] []=some (if s.Nk.all WU=true then .exit 8 else .ret,fr',[])/\(s.Nk.all WU=true->get fr' 1=stI s/\get fr' 2=.bot)/\(s.Nk.all WU=false->get fr' 2=.bool false):=by
 have L:=QT (E:=rE) (live:=[1,8]) (b:=c30L4b) (h:=[]) s.Nk (λ_ x=>WU x) (λi=>[(1,stI s),(8,I i)]) 8 (λfr=>get fr 1=stI s/\get fr 2=.bot) (λfr=>get fr 2=.bool false) (λi=>rfl)
  (λi x hx hP=>by
   have hg:=Z6 (f:=be.enc) hx;have hi:=Zh<|Z7 hx;have hw:=Zx (n:=i) (by have:=Z7 hx;omega)
   have hS:=FP x.Id x.Ga x.Text;simp only[WU]at hP;have p0:=hP;rw[p0]at hS;refine⟨_,by simp only[go_sem,c30L4b,hg,hi,hw,be.enc,hS];rfl,?_⟩
   simp only[go_sem])
  (λi x hx hP=>by
   have hg:=Z6 (f:=be.enc) hx;have hi:=Zh<|Z7 hx;have hS:=FP x.Id x.Ga x.Text;unfold WU at hP;cases c0:[x.Id,x.Ga,x.Text].all ZU with
   |false=>
    rw[c0]at hS;refine⟨_,by simp only[go_sem,c30L4b,hg,hi,be.enc,hS];rfl,?_⟩
    simp only[go_sem]
   |true=>
   rw[c0]at hS hP;cases hP)
  (⟨_,by simp only[go_sem,c30L4b,ZG];rfl,by simp only[go_sem],by simp only[go_sem]⟩)
 rw[QE]at L;exact L
def M3(s:Sta):Bool:=!decide ((s.Fa.length:Int)>8)&&(!decide ((s.Gm.length:Int)>8)&&(!decide ((s.Bt.length:Int)>8)&&(!decide ((s.Bc.length:Int)>16)&&(!decide ((s.Nk.length:Int)>10)&&(!decide ((s.Gc.length:Int)>10)&&!decide ((s.ba.length:Int)>10))))))
def YQ(s:Sta):Bool:=M3 s&&(s.Fa.all WQ&&(s.Gm.all WR&&(s.Bt.all WS&&(s.Bc.all WT&&s.Nk.all WU))))
def Z4F(s:Sta):pfn rE 30 [stA s]=some (.bool<|YQ s):=by
 rw[Z5 (f:=30) rfl rfl];unfold YQ M3;cases d0:decide ((s.Fa.length:Int)>8)with
 |true=>simp only[go_sem,c30,d0]
 |false=>
 cases d1:decide ((s.Gm.length:Int)>8)with
 |true=>simp only[go_sem,c30,d0,d1]
 |false=>
 cases d2:decide ((s.Bt.length:Int)>8)with
 |true=>simp only[go_sem,c30,d0,d1,d2]
 |false=>
 cases d3:decide ((s.Bc.length:Int)>16)with
 |true=>simp only[go_sem,c30,d0,d1,d2,d3]
 |false=>
 cases d4:decide ((s.Nk.length:Int)>10)with
 |true=>simp only[go_sem,c30,d0,d1,d2,d3,d4]
 |false=>
 cases d5:decide ((s.Gc.length:Int)>10)with
 |true=>simp only[go_sem,c30,d0,d1,d2,d3,d4,d5]
 |false=>
 cases d6:decide ((s.ba.length:Int)>10)with
 |true=>simp only[go_sem,c30,d0,d1,d2,d3,d4,d5,d6]
 |false=>
 obtain⟨f0,l0,a0,b0⟩:=Z4A s (by have:=of_decide_eq_false d0;omega)
 simp only[stI]at l0 a0;cases e0:s.Fa.all WQ with
 |false=>
  rw[e0]at l0;simp only[go_sem,c30,d0,d1,d2,d3,d4,d5,d6,c30L0,l0,b0 e0,ZVI]
 |true=>
 rw[e0]at l0;obtain⟨q0,r0⟩:=a0 e0;obtain⟨f1,l1,a1,b1⟩:=Z4B s (by have:=of_decide_eq_false d1;omega)
 simp only[stI]at l1 a1;cases e1:s.Gm.all WR with
 |false=>
  rw[e1]at l1;simp only[go_sem,c30,d0,d1,d2,d3,d4,d5,d6,c30L0,l0,q0,r0,c30L1,l1,b1 e1,ZVI]
 |true=>
 rw[e1]at l1;obtain⟨q1,r1⟩:=a1 e1;obtain⟨f2,l2,a2,b2⟩:=Z4C s (by have:=of_decide_eq_false d2;omega)
 simp only[stI]at l2 a2;cases e2:s.Bt.all WS with
 |false=>
  rw[e2]at l2;simp only[go_sem,c30,d0,d1,d2,d3,d4,d5,d6,c30L0,l0,q0,r0,c30L1,l1,q1,r1,c30L2,l2,b2 e2,ZVI]
 |true=>
 rw[e2]at l2;obtain⟨q2,r2⟩:=a2 e2;obtain⟨f3,l3,a3,b3⟩:=Z4D s (by have:=of_decide_eq_false d3;omega)
 simp only[stI]at l3 a3;cases e3:s.Bc.all WT with
 |false=>
  rw[e3]at l3;simp only[go_sem,c30,d0,d1,d2,d3,d4,d5,d6,c30L0,l0,q0,r0,c30L1,l1,q1,r1,c30L2,l2,q2,r2,c30L3,l3,b3 e3,ZVI]
 |true=>
 rw[e3]at l3;obtain⟨q3,r3⟩:=a3 e3;obtain⟨f4,l4,a4,b4⟩:=Z4E s (by have:=of_decide_eq_false d4;omega)
 simp only[stI]at l4 a4;cases e4:s.Nk.all WU with
 |false=>
  rw[e4]at l4;simp only[go_sem,c30,d0,d1,d2,d3,d4,d5,d6,c30L0,l0,q0,r0,c30L1,l1,q1,r1,c30L2,l2,q2,r2,c30L3,l3,q3,r3,c30L4,l4,b4 e4,ZVI]
 |true=>
 rw[e4]at l4;obtain⟨q4,r4⟩:=a4 e4;simp only[go_sem,c30,d0,d1,d2,d3,d4,d5,d6,c30L0,l0,q0,r0,c30L1,l1,q1,r1,c30L2,l2,q2,r2,c30L3,l3,q3,r3,c30L4,l4,r4,if_true]
def Kl(s:Sta)(h:YQ s=true):StF s:=by
 simp only[YQ,M3,ZVB,ZVW]at h;obtain⟨⟨d0,d1,d2,d3,d4,d5,d6⟩,e0,e1,e2,e3,e4⟩:=h;have k0:=of_decide_eq_false d0;have k1:=of_decide_eq_false d1;have k2:=of_decide_eq_false d2;have k3:=of_decide_eq_false d3;have k4:=of_decide_eq_false d4;have k5:=of_decide_eq_false d5;have k6:=of_decide_eq_false d6;have hN:∀l:List Nm,XQ l=true->l.length<=100:=λl hl=>by
  simp only[XQ,ZVB]at hl;have:=of_decide_eq_true hl.2;omega
 rw[ZVT]at e0 e1 e2 e3 e4;refine⟨⟨⟨by omega,by omega,by omega,by omega,by omega,by omega,by omega⟩,λx hx=>?_,λx hx=>?_,λx hx=>?_,λx hx=>?_,λx hx=>?_⟩,by omega,by omega,by omega,by omega,by omega,by omega,by omega⟩
 .have:=e0 x hx;simp only[WQ,ZVB,ZVW]at this;obtain⟨p0,p1,p2⟩:=this;have p2':=of_decide_eq_false p2;simp[ZU]at p0;exact⟨hN _ p1,by omega,by omega⟩
 .have:=e1 x hx;simp only[WR,ZVB,ZVW]at this;obtain⟨p0,p1,p2⟩:=this;have p2':=of_decide_eq_false p2;simp[ZU]at p0;exact⟨hN _ p1,by omega,by omega⟩
 .have:=e2 x hx;simp only[WS,ZVB,ZVW]at this;obtain⟨p0,p2⟩:=this;have p2':=of_decide_eq_false p2;simp[ZU]at p0;exact⟨by omega,by omega⟩
 .have:=e3 x hx;simp only[WT,ZVB,ZVW]at this;obtain⟨p0,p1,p2⟩:=this;have p1':=of_decide_eq_false p1;simp[ZU]at p0;exact⟨by omega,by omega,by omega,by omega,by omega⟩
 .have:=e4 x hx;simp only[WU]at this;simp[ZU]at this;exact⟨by omega,by omega,by omega⟩
def ZV8(s:Sta)(id:Str):pfn rE 18 [stA s,.str id]=some (.bool<|YQ s&&decide ((id.size:Int)<=100)):=by
 have h:=Z4F s;rw[Z5 (f:=18) rfl rfl];cases c:YQ s<;>rw[c]at h<;>simp only[go_sem,c18,h,ZVD,ZVG]
def ZRT{x:Str}(h:ZU x=true):x.size<=1000000:=by
 unfold ZU at h;rw[ZVW,decide_eq_false_iff_not]at h;omega
def ZRU{l:List Nm}(h:XQ l=true):∀n∈l,n.Lang.size<=1000000/\n.Text.size<=1000000:=by
 unfold XQ at h;rw[ZVB]at h;have hl:=of_decide_eq_true h.2;have ht:l.take 10=l:=ZW5<|by omega
 rw[ht]at h;intro n hn;have h1:=ZVT.1 h.1 n hn;unfold M1 at h1;simp only[ZWn,ZXD,ZVJ,ZVB]at h1;exact⟨ZRT h1.1,ZRT h1.2⟩
def ZV9{s:Sta}(h:YQ s=true):StR s:=by
 have hz:=Kl s h;simp only[YQ,M3,ZVB,ZVW]at h;obtain⟨⟨_,_,_,_,_,d5,_⟩,e0,e1,_⟩:=h;have k5:=of_decide_eq_false d5;refine⟨hz.e,λx hx=>?_,λx hx=>?_,by omega⟩
 .have h1:=ZVT.1 e0 x hx;unfold WQ at h1;simp only[ZVB]at h1;exact ZRU h1.2.1
 .have h1:=ZVT.1 e1 x hx;unfold WR at h1;simp only[ZVB]at h1;exact ZRU h1.2.1
def ZRV(s:Sta)(id:Str):(Jx s=false/\ZEb s id=1)\/(Jx s=true/\Zn s id<0/\ZEb s id=10)\/(Jx s=true/\0<=Zn s id/\ZEb s id=0):=by
 unfold ZEb;cases hp:Jx s with
 |false=>exact Or.inl ⟨rfl,rfl⟩
 |true=>
  cases hf:decide (Zn s id<0)with
  |true=>exact Or.inr<|Or.inl ⟨rfl,of_decide_eq_true hf,rfl⟩
  |false=>exact Or.inr<|Or.inr ⟨rfl,by have:=of_decide_eq_false hf;omega,rfl⟩
def ZRW{s:Sta}{x:Str}(h:0<=Zn s x):Zn s x<s.Bc.length:=by
 obtain⟨j,d,h1,h2,_⟩:=ZOC h;have:=Z7 h2;omega
def ZRX(s:Sta)(hR:StR s)(hN:s.Bc.length<=500)(id:Str):∃(D:List Str)(E:List Endz)(e:Int),pfn rE 19 [stA s,.str id]=some (.tup [ftA false false D E,I e])/\pfn rE 20 [stA s,.str id]=some (.tup [ftA false false D E,I e])/\D.length<=500/\E.length<=500:=by
 rcases ZRV s id with⟨hp,hc⟩|⟨hp,hf,hc⟩|⟨hp,hf,hc⟩
 .have h1:=ZFi s hR.toStE id (by rw[hc];decide)
  rw[hc]at h1;exact⟨[],[],1,h1,ZUO s hR id hp,by simp,by simp⟩
 .have h1:=ZFi s hR.toStE id (by rw[hc];decide)
  rw[hc]at h1;exact⟨[],[],10,h1,ZUN s hR id hp hf,by simp,by simp⟩
 .obtain⟨D,E,h1,hF⟩:=ZHv s hp hR.toStE hN id (decide_eq_false<|by omega)
  have hp':=((Zdb s).1 hp).1;have hF2:=ZV3 hp' hN hf;obtain⟨e1,e2⟩:=ZKB hF hF2 (λx=>by rw[hF.dm,hF2.dm])<|λx=>by rw[hF.em,hF2.em]
  have h2:=ZUM s hR id hp (ZUZ hp') hf<|ZRW hf;rw[<-e1,<-e2]at h2;exact⟨D,E,0,h1,h2,hF.dl,hF.el⟩
def ZVa(s:Sta)(hR:StR s)(hN:s.Bc.length<=500)(id:Str):∃(ex:Bool)(D:List Str)(e:Int),pfn rE 21 [stA s,.str id]=some (.tup [.isl false ex 1<|D.map encS,I e])/\pfn rE 22 [stA s,.str id]=some (.tup [.isl false false 1<|D.map encS,I e])/\D.length<=500:=by
 rcases ZRV s id with⟨hp,hc⟩|⟨hp,hf,hc⟩|⟨hp,hf,hc⟩
 .obtain⟨ex,h1⟩:=ZJJ s hR.toStE id (by rw[hc];decide)
  rw[hc]at h1;exact⟨ex,[],1,h1,ZUY s hR id hp,by simp⟩
 .obtain⟨ex,h1⟩:=ZJJ s hR.toStE id (by rw[hc];decide)
  rw[hc]at h1;exact⟨ex,[],10,h1,ZUX s hR id hp hf,by simp⟩
 .obtain⟨D,h1,hO⟩:=ZJG s hp hR.toStE hN id (decide_eq_false<|by omega)
  have hp':=((Zdb s).1 hp).1;obtain⟨o1,o2⟩:=ZV7 hp' hf;have e:D=ZOY s id:=ZIS (f:=λx=>x) hO.ds o1<|λx=>by rw[hO.dm,o2]
  have h2:=ZUW s hR id hp hf<|ZRW hf;rw[<-e]at h2;exact⟨false,D,0,h1,h2,hO.dl⟩
def ZRY{s:Sta}(hp:Prop' s){u:be}(hu:u∈s.Nk):(u.Ld==-1)=true↔u.Ld<0:=by
 obtain⟨_,h2,_⟩:=(Zdl s u).1 (hp.un u hu);unfold QM ZD at h2;simp only[ZVB,decide_eq_true_iff]at h2;rw[beq_iff_eq];omega
def ZVb(s:Sta)(hR:StR s)(hN:s.Bc.length<=500)(id:Str):∃(D:List Str)(E:List Endz)(e:Int),pfn rE 23 [stA s,.str id]=some (.tup [ftA false false D E,I e])/\pfn rE 24 [stA s,.str id]=some (.tup [ftA false false D E,I e])/\D.length<=500/\E.length<=500:=by
 cases hp:Jx s with
 |false=>exact⟨[],[],1,ZUH s hR.toStE id hp,ZUP s hR id hp,by simp,by simp⟩
 |true=>
  have hp':=((Zdb s).1 hp).1;by_cases hf:Wf s id<0
  .exact⟨[],[],10,ZUI s hR.toStE id hp hf,ZUQ s hR id hp hf,by simp,by simp⟩
  .obtain⟨k,u,hk,hu⟩:∃(k:Nat)(u:be),Wf s id=(k:Int)/\s.Nk[k]?=some u:=ZPc _ s.Nk (decide_eq_true<|by show Wf s id>=0;omega)
   have hm:=ZVN hu;cases he:(u.Ld==-1)with
   |false=>
    have hlt:¬u.Ld<0:=λh=>by rw[(ZRY hp' hm).2 h]at he;cases he
    exact⟨[],[⟨u.Id,u.Why,u.Ld⟩],0,ZKT s hR.toStE id hp k u hk hu hlt,ZUR s hR id hp k u hk hu he,by simp,by simp⟩
   |true=>
    obtain⟨D,E,e,h1,h2,h3,h4⟩:=ZRX s hR hN u.Ga;exact⟨D,E,e,ZKU s hR.toStE id hp k u hk hu ((ZRY hp' hm).1 he) false false D E e h1,ZUS s hR id hp k u hk hu he D E e h2,h3,h4⟩
def Zs5(hup:pfn rE 17 []=some (.bool true))(s:Sta)(id u:Str):pfn rE 4 [stA s,.str id,.str u]=some (.bool true):=by
 have hw:=ZV8 s id;cases c1:YQ s&&decide ((id.size:Int)<=100)with
 |false=>
  rw[c1]at hw;rw[Z5 (f:=4) rfl rfl];simp only[go_sem,c4,hup,hw,ZVE]
 |true=>
 rw[c1]at hw;cases c2:decide ((u.size:Int)>100)with
 |true=>
  rw[Z5 (f:=4) rfl rfl];simp only[go_sem,c4,hup,hw,c2,ZVC]
 |false=>
 rw[ZVB]at c1;have hR:=ZV9 c1.1;have hN:=(Kl s c1.1).doors;obtain⟨D,E,e,f1,f2,f3,f4⟩:=ZRX s hR hN id;obtain⟨ex,O,g,o1,o2,o3⟩:=ZVa s hR hN id;obtain⟨P,Q,i,u1,u2,u3,u4⟩:=ZVb s hR hN u;have s1:=ZRB false false false false D E (by omega)<|by omega
 have s2:=ZRB false false false false P Q (by omega)<|by omega
 have s3:=ZRs false ex false false O O<|by omega
 rw[ZPx ZOg]at s3;have hcS:∀K:List Str,Z4 (K.map encS)=true:=λK=>Zw (λt=>rfl) K
 have hcE:∀K:List Endz,Z4 (K.map Endz.enc)=true:=λK=>Zw (λt=>rfl) K
 have h2:∀n:Int,(n==n)=true:=λn=>by simp
 unfold ftA at*;rw[Z5 (f:=4) rfl rfl];simp only[go_sem,c4,hup,hw,c2,f1,f2,o1,o2,u1,u2,s1,s2,s3,h2,hcS,hcE,ZVC]
end Go.AM
