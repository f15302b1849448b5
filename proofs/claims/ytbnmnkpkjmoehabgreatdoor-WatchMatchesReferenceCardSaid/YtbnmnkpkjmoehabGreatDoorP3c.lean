/- What the functions of the program compute, part 3, for WatchMatchesReference. No condition. -/
import Derived.Test.YtbnmnkpkjmoehabGreatDoorP3b
set_option linter.unusedVariables false
set_option linter.defProp false
set_option linter.unusedSimpArgs false
set_option linter.unusedSectionVars false
namespace Go.AM
open Go
variable [REdz]
def ZTA(l:List Pt)(ex:Bool)(hl:l.length<=1000000):pfn rE 104 [.isl false ex 2<|l.map Pt.enc]=some (.bool<|Ul l):=by
 have L:=QT (E:=rE) (live:=[0,3]) (b:=c104L0b) (h:=[]) l (VX l) (λi=>[(0,.isl false ex 2<|l.map Pt.enc),(3,I i)]) 0 (λ_=>True) (λfr=>get fr 2=.bool false) (λi=>rfl)
  (λi x hx hP=>by
   have hg:=Z6 (f:=Pt.enc) hx;have hi:=Zh<|Z7 hx;have hw:=Zx (n:=i) (by have:=Z7 hx;omega)
   have hP1:gOn x=true:=by simp only[VX,ZWn]at hP;exact hP.1
   rcases i with _|j
   .have h0:decide (((0:Nat):Int)>0)=false:=rfl;refine⟨_,by simp only[go_sem,c104L0b,hg,hi,hw,Pt.enc,ZO4,hP1,h0,ZWm,ZWo];rfl,?_⟩
    simp only[go_sem]
   .have h0:decide (((j+1:Nat):Int)>0)=true:=decide_eq_true (by omega)
    have hs:IntKind.i64.wrap (((j+1:Nat):Int)-1)=((j:Nat):Int):=by rw[YM (by omega) (by have:=Z7 hx;omega)];omega
    have hg1:=YN (l:=l) (i:=j) (by have:=Z7 hx;omega)
    have hP2:(x.X==(pAt l j).X&&x.Y==(pAt l j).Y)=false:=by
     have:VX l (j+1) x=(gOn x&&!(decide (((j+1:Nat):Int)>0)&&QK x (pAt l j))):=rfl;rw[this,hP1,h0]at hP;simp only[ZWp,ZWG]at hP;exact hP
    refine⟨_,by simp only[go_sem,c104L0b,hg,hg1,hi,hw,hs,Pt.enc,ZO4,hP1,h0,hP2,ZWm,ZWo];rfl,?_⟩
    simp only[go_sem])
  (λi x hx hP=>by
   have hg:=Z6 (f:=Pt.enc) hx;have hi:=Zh<|Z7 hx;cases hP1:gOn x with
   |false=>
    refine⟨_,by simp only[go_sem,c104L0b,hg,hi,Pt.enc,ZO4,hP1,ZWm,ZWq];rfl,?_⟩
    simp only[go_sem]
   |true=>
    rcases i with _|j
    .simp[VX,hP1]at hP
    .have h0:decide (((j+1:Nat):Int)>0)=true:=decide_eq_true (by omega)
     have hs:IntKind.i64.wrap (((j+1:Nat):Int)-1)=((j:Nat):Int):=by rw[YM (by omega) (by have:=Z7 hx;omega)];omega
     have hg1:=YN (l:=l) (i:=j) (by have:=Z7 hx;omega)
     have hP2:(x.X==(pAt l j).X&&x.Y==(pAt l j).Y)=true:=by
      have:VX l (j+1) x=(gOn x&&!(decide (((j+1:Nat):Int)>0)&&QK x (pAt l j))):=rfl;rw[this,hP1,h0]at hP;simp only[ZWp,ZXK]at hP;exact hP
     refine⟨_,by simp only[go_sem,c104L0b,hg,hg1,hi,hs,Pt.enc,ZO4,hP1,h0,hP2,ZWm,ZWo];rfl,?_⟩
     simp only[go_sem])
  (⟨_,by simp only[go_sem,c104L0b,ZG,ZWm];rfl,trivial⟩)
 obtain⟨fr',h1,h2,h3⟩:=L;have h1':Zg rE [0,3] c104L0b [(0,.isl false ex 2<|l.map Pt.enc),(3,.int .i64 0)] []=_:=h1;rw[Z5 (f:=104) rfl rfl];unfold Ul;have e3:decide ((l.length:Int)>=2) = !decide ((l.length:Int)<2):=by rw[ZWK];simp
 have e4:decide ((l.length:Int)<=40) = !decide ((l.length:Int)>40):=by rw[ZWK];simp
 rw[e3,e4];cases c1:decide ((l.length:Int)<2)with
 |true=>simp only[go_sem,c104,c1,ZWm,ZWo,ZWr,ZWw]
 |false=>
  cases c2:decide ((l.length:Int)>40)with
  |true=>simp only[go_sem,c104,c1,c2,ZWm,ZWo,ZWq,ZWw]
  |false=>
   cases hc:Zu (VX l) 0 l with
   |true=>rw[hc]at h1';simp only[go_sem,c104,c104L0,h1',c1,c2,ZWm,ZWq,ZWv]
   |false=>rw[hc]at h1';simp only[go_sem,c104,c104L0,h1',h3 hc,c1,c2,ZWm,ZWq,ZWv,ZWt]
def nb0(n:Nat):(((n:Nat):Int)==0)=(n==0):=by rw[ZWK,beq_iff_eq,beq_iff_eq];omega
def cmN(a b:Nat)(d:Nat):Bool:=!(a%d==0&&b%d==0)
def cmT(a b:Nat):Bool:=!(List.range' 2<|a-1).all (cmN a b)
def ZTB(a b:Nat)(ha:1<=a)(ha2:a<=9)(hb:b<=9):pfn rE 183 [I a,I b]=some (.bool<|cmT a b):=by
 have L:=Uf (E:=rE) (live:=[0,1,5]) (b:=c183L0b) (h:=[]) (List.range' 2<|a-1) (λ_ d=>cmN a b d) (λj=>[(0,I a),(1,I b),(5,I (2+j:Nat))]) 0 (λfr=>get fr 4=.bool true) (λi=>rfl)
  (λj d hd hP=>by
   obtain⟨rfl,hj⟩:=Dt hd;have hle:decide (((2+j:Nat):Int)<=(a:Int))=true:=decide_eq_true<|by omega
   have hn:=nat_ne (n:=2+j)<|by omega
   have hw:=Zx (n:=2+j)<|by omega
   have ea:2+(j+1)=2+j+1:=by omega
   rw[ea];unfold cmN at hP;have e1:(((a%(2+j):Nat):Int)==0)=(a%(2+j)==0):=nb0 _;have e2:(((b%(2+j):Nat):Int)==0)=(b%(2+j)==0):=nb0 _;rw[<-e1,<-e2]at hP;generalize 2+j=k at*;cases c1:(((a%k:Nat):Int)==0)with
   |false=>
    refine⟨_,by simp only[go_sem,c183L0b,hle,hn,hw,Jc,c1];rfl,?_⟩
    simp only[go_sem]
   |true=>
    rw[c1,ZWp,ZWG]at hP;refine⟨_,by simp only[go_sem,c183L0b,hle,hn,hw,Jc,c1,hP];rfl,?_⟩
    simp only[go_sem])
  (λj d hd hP=>by
   obtain⟨rfl,hj⟩:=Dt hd;have hle:decide (((2+j:Nat):Int)<=(a:Int))=true:=decide_eq_true<|by omega
   have hn:=nat_ne (n:=2+j)<|by omega
   unfold cmN at hP;have e1:(((a%(2+j):Nat):Int)==0)=(a%(2+j)==0):=nb0 _;have e2:(((b%(2+j):Nat):Int)==0)=(b%(2+j)==0):=nb0 _;rw[<-e1,<-e2]at hP;generalize 2+j=k at*;rw[ZXK,ZWn]at hP;refine⟨_,by simp only[go_sem,c183L0b,hle,hn,Jc,hP.1,hP.2];rfl,?_⟩
   simp only[go_sem])
  (by
   have hle:decide (((2+(List.range' 2<|a-1).length:Nat):Int)<=(a:Int))=false:=by simp;omega
   generalize 2+(List.range' 2<|a-1).length=k at*;exact⟨_,by simp only[go_sem,c183L0b,hle];rfl⟩)
 rw[QE]at L;obtain⟨fr',h1,h2⟩:=L;have h1':Zg rE [0,1,5] c183L0b [(0,I a),(1,I b),(5,.int .i64 2)] []=_:=h1;rw[Z5 (f:=183) rfl rfl];unfold cmT;cases hc:(List.range' 2<|a-1).all (cmN a b)with
 |true=>rw[hc]at h1';simp only[go_sem,c183,c183L0,h1',ZWo]
 |false=>rw[hc]at h1';simp only[go_sem,c183,c183L0,h1',h2 hc,ZWq,ZWt]
def rFr(a b:Int):Bool:=bif (a==0&&b==0)then true else decide (a>=1)&&(decide (a<b)&&(decide (b<=9)&&!cmT a.toNat b.toNat))
def ZTC{a b:Int}(h:decide (Nl a b>=0)=true):∃x∈Vi,x.a=a/\x.b=b:=by
 unfold Nl at h;rcases UA (λp:bf=>p.a==a&&p.b==b) Vi 0 with⟨h1,_⟩|⟨j,x,_,h2,h3⟩
 .rw[h1]at h;cases h
 .have h4:=ZYI h3;rw[ZWn]at h4;exact⟨x,ZYX h3,eq_of_beq h4.1,eq_of_beq h4.2⟩
def ZTD:∀x∈Vi,0<=x.a/\x.a<=9/\0<=x.b/\x.b<=9:=by decide
def ZTE:∀a b:Fin 10,rFr ((a.val:Nat):Int) ((b.val:Nat):Int)=decide (Nl ((a.val:Nat):Int) ((b.val:Nat):Int)>=0):=by decide +kernel
def ZTF(a b:Int):rFr a b=decide (Nl a b>=0):=by
 by_cases h:0<=a/\a<=9/\0<=b/\b<=9
 .have:=ZTE ⟨a.toNat,by omega⟩ ⟨b.toNat,by omega⟩
  dsimp only at this
  rwa[ZZ8 h.1,ZZ8 h.2.2.1]at this
 .have h1:decide (Nl a b>=0)=false:=by
   cases c:decide (Nl a b>=0)with
   |false=>rfl
   |true=>
    obtain⟨x,h1,rfl,rfl⟩:=ZTC c;have:=ZTD x h1;omega
  rw[h1];unfold rFr;cases c0:(a==0&&b==0)with
  |true=>
   rw[ZWn,beq_iff_eq,beq_iff_eq]at c0;omega
  |false=>
   rw[cond_false];cases c1:decide (a>=1)with
   |false=>rfl
   |true=>
    cases c2:decide (a<b)with
    |false=>rfl
    |true=>
     cases c5003:decide (b<=9)with
     |false=>rfl
     |true=>
      have:=of_decide_eq_true c1;have:=of_decide_eq_true c2;have:=of_decide_eq_true c5003;omega
def ZQi(s:Str):Bool:=!(decide ((s.size:Int)>1)||(!Z3 s emp&&(WW s (B [97])||!(WW s (B [122])||Z3 s (B [122])))))
def ZTG(s:Str):ZQi s=letterT s:=by
 obtain⟨⟨l⟩⟩:=s;unfold ZQi letterT;rcases l with _|⟨b,_|⟨c,r⟩⟩
 .rfl
 .have h1:(ByteArray.size ⟨⟨[b]⟩⟩:Nat)=1:=rfl;have h2:Z3 ⟨⟨[b]⟩⟩ emp=false:=by
   rw[ZXw];intro h;have:=(Ky _ _).1 h;cases this
  have h3:Vj ⟨⟨[b]⟩⟩ 0=(b.toNat:Int):=rfl;have h4:WW ⟨⟨[b]⟩⟩ (B [97])=decide (b<97):=by
   show(decide (b<97)||(b==97&&false))=_
   rw[ZWw,ZWS]
  have h5:(WW ⟨⟨[b]⟩⟩ (B [122])||Z3 ⟨⟨[b]⟩⟩ (B [122]))=decide (b<=122):=by
   have e1:WW ⟨⟨[b]⟩⟩ (B [122])=decide (b<122):=by
    show(decide (b<122)||(b==122&&false))=_
    rw[ZWw,ZWS]
   have e2:Z3 ⟨⟨[b]⟩⟩ (B [122])=(b==122):=by
    rw[ZWK,Ky,beq_iff_eq];constructor
    .intro h;have:([b]:List UInt8)=[122]:=congrArg (λs:Str=>s.data.toList) h
     exact(List.cons.inj this).1
    .rintro rfl;rfl
   rw[e1,e2,ZWK];simp only[ZXt,decide_eq_true_eq,beq_iff_eq];rw[UInt8.lt_iff_toNat_lt,UInt8.le_iff_toNat_le,<-UInt8.toNat_inj];have:(122:UInt8).toNat=122:=rfl;omega
  rw[h1,h2,h3,h4,h5];rw[ZWK];have e97:(97:UInt8).toNat=97:=rfl;have e122:(122:UInt8).toNat=122:=rfl;simp[UInt8.lt_iff_toNat_lt,UInt8.le_iff_toNat_le,e97,e122]
  try omega
 .have h1:(ByteArray.size ⟨⟨b::c::r⟩⟩:Nat)=r.length+2:=rfl;have h2:Z3 ⟨⟨b::c::r⟩⟩ emp=false:=by
   rw[ZXw];intro h;have:=(Ky _ _).1 h;cases this
  rw[h1,h2,decide_eq_true<|by omega]
  have h3:(((r.length+2:Nat):Int)==1)=false:=by rw[beq_eq_false_iff_ne];omega
  rw[h3];rfl
def ZRD{a b:Int}(h1:a>=1)(h2:a<b)(h3:b<=9):pfn rE 183 [I a,I b]=some (.bool<|cmT a.toNat b.toNat):=by
 have:=ZTB a.toNat b.toNat (by omega) (by omega)<|by omega
 rwa[ZZ8 (by omega),ZZ8<|by omega]at this
def ZTH(n:HN):pfn rE 107 [.agg [I n.N,.str n.bm,I n.Num,I n.Den]]=some (.bool<|YO n):=by
 unfold YO;rw[<-ZTG,<-ZTF];unfold ZQi rFr;have e1:decide (n.N>=1) = !decide (n.N<1):=by rw[ZWK];simp
 have e2:decide (n.N<=9999) = !decide (n.N>9999):=by rw[ZWK];simp
 rw[e1,e2,Z5 (f:=107) rfl rfl];cases c1:decide (n.N<1)with
 |true=>simp only[go_sem,c107,c1,ZWo,ZWr]
 |false=>
  cases c2:decide (n.N>9999)with
  |true=>simp only[go_sem,c107,c1,c2,ZWo,ZWq,ZWr,ZWp]
  |false=>
   cases c5003:decide ((n.bm.size:Int)>1)with
   |true=>simp only[go_sem,c107,c1,c2,c5003,ZWo,ZWq,ZWr,ZWp,ZWC]
   |false=>
    cases c5004:Z3 n.bm emp with
    |true=>
     cases c30:(n.Num==0&&n.Den==0)with
     |true=>
      rw[ZWn]at c30;simp only[go_sem,c107,c1,c2,c5003,c5004,c30.1,c30.2,ZWo,ZWq,ZWr,ZWp,ZWC,ZWB,ZWS,ZWw]
     |false=>
      have c7':=c30;cases d1:n.Num==0<;>rw[d1]at c7'<;>(try simp only[ZWp]at c7')
      .cases c19:decide (n.Num>=1)with
       |false=>simp only[go_sem,c107,c1,c2,c5003,c5004,d1,c19,ZWo,ZWq,ZWr,ZWp,ZWC,ZWB,ZWS,ZWw]
       |true=>
        cases c25:decide (n.Num<n.Den)with
        |false=>simp only[go_sem,c107,c1,c2,c5003,c5004,d1,c19,c25,ZWo,ZWq,ZWr,ZWp,ZWC,ZWB,ZWS,ZWw]
        |true=>
         cases c5011:decide (n.Den<=9)with
         |false=>simp only[go_sem,c107,c1,c2,c5003,c5004,d1,c19,c25,c5011,ZWo,ZWq,ZWr,ZWp,ZWC,ZWB,ZWS,ZWw]
         |true=>
          have hcm:=ZRD (of_decide_eq_true c19) (of_decide_eq_true c25)<|of_decide_eq_true c5011;simp only[go_sem,c107,c1,c2,c5003,c5004,d1,c19,c25,c5011,hcm,ZWo,ZWq,ZWr,ZWp,ZWC,ZWB,ZWS,ZWw]
      .have z1:decide (n.Num>=1)=false:=decide_eq_false (by have:=eq_of_beq d1;omega)
       simp only[go_sem,c107,c1,c2,c5003,c5004,d1,c7',z1,ZWo,ZWq,ZWr,ZWp,ZWC,ZWB,ZWS,ZWw]
    |false=>
     cases c5005:WW n.bm (B [97])with
     |true=>simp only[go_sem,c107,c1,c2,c5003,c5004,c5005,ZWo,ZWq,ZWr,ZWp,ZWC,ZWB,ZWS,ZWw]
     |false=>
      cases c5006:WW n.bm (B [122])||Z3 n.bm (B [122])with
      |false=>simp only[go_sem,c107,c1,c2,c5003,c5004,c5005,c5006,ZWo,ZWq,ZWr,ZWp,ZWC,ZWB,ZWS,ZWw]
      |true=>
       cases c30:(n.Num==0&&n.Den==0)with
       |true=>
        rw[ZWn]at c30;simp only[go_sem,c107,c1,c2,c5003,c5004,c5005,c5006,c30.1,c30.2,ZWo,ZWq,ZWr,ZWp,ZWC,ZWB,ZWS,ZWw]
       |false=>
        have c7':=c30;cases d1:n.Num==0<;>rw[d1]at c7'<;>(try simp only[ZWp]at c7')
        .cases c19:decide (n.Num>=1)with
         |false=>simp only[go_sem,c107,c1,c2,c5003,c5004,c5005,c5006,d1,c19,ZWo,ZWq,ZWr,ZWp,ZWC,ZWB,ZWS,ZWw]
         |true=>
          cases c25:decide (n.Num<n.Den)with
          |false=>simp only[go_sem,c107,c1,c2,c5003,c5004,c5005,c5006,d1,c19,c25,ZWo,ZWq,ZWr,ZWp,ZWC,ZWB,ZWS,ZWw]
          |true=>
           cases c5011:decide (n.Den<=9)with
           |false=>simp only[go_sem,c107,c1,c2,c5003,c5004,c5005,c5006,d1,c19,c25,c5011,ZWo,ZWq,ZWr,ZWp,ZWC,ZWB,ZWS,ZWw]
           |true=>
            have hcm:=ZRD (of_decide_eq_true c19) (of_decide_eq_true c25)<|of_decide_eq_true c5011;simp only[go_sem,c107,c1,c2,c5003,c5004,c5005,c5006,d1,c19,c25,c5011,hcm,ZWo,ZWq,ZWr,ZWp,ZWC,ZWB,ZWS,ZWw]
        .have z1:decide (n.Num>=1)=false:=decide_eq_false (by have:=eq_of_beq d1;omega)
         simp only[go_sem,c107,c1,c2,c5003,c5004,c5005,c5006,d1,c7',z1,ZWo,ZWq,ZWr,ZWp,ZWC,ZWB,ZWS,ZWw]
def ltI(x:Int):Bool:=(decide (x>=97)&&decide (x<=122))||(decide (x>=65)&&decide (x<=90))
def dgI(x:Int):Bool:=decide (x>=48)&&decide (x<=57)
def wdI(x:Int):Bool:=ltI x||(dgI x||x==95)
def ZRE(x:Int):pfn rE 116 [.int .u8 x]=some (.bool<|ltI x):=by
 rw[Z5 (f:=116) rfl rfl];unfold ltI;cases h1:decide (x>=97)<;>cases h2:decide (x<=122)<;>cases h3:decide (x>=65)<;>simp only[go_sem,c116,h1,h2,h3,ZWv,ZWw,ZWp,ZWr,ZX0,ZWS,ZWC,ZWB]
def ZTI(x:Int):pfn rE 184 [.int .u8 x]=some (.bool<|dgI x):=by
 rw[Z5 (f:=184) rfl rfl];unfold dgI;cases h1:decide (x>=48)<;>simp only[go_sem,c184,h1,ZWp,ZWr]
def ZRF(x:Int):pfn rE 115 [.int .u8 x]=some (.bool<|wdI x):=by
 rw[Z5 (f:=115) rfl rfl];unfold wdI;cases h1:ltI x<;>cases h2:dgI x<;>simp only[go_sem,c115,ZRE,ZTI,h1,h2,ZWC,ZWB]
def wdB(b:UInt8):Bool:=wdI b.toNat
def ZOQ(s:Str):Bool:=s.data.toList.all wdB&&(decide (0<s.size)&&(decide ((s.size:Int)<=24)&&ltI (Xc s 0)))
def ZP2{s:Str}{i:Nat}{b:UInt8}(h:s.data.toList[i]?=some b):s.data[i]?=some b/\i<s.size:=by
 constructor
 .simpa using h
 .have:=Z7 h;have e:s.data.toList.length=s.size:=ZX7;omega
def ZOI(s:Str):s.data.toList.length=s.size:=ZX7
def ZTJ(s:Str)(hs:s.size<=1000000):pfn rE 59 [.str s]=some (.bool<|ZOQ s):=by
 have L:=QT (E:=rE) (live:=[0,3]) (b:=c59L0b) (h:=[]) s.data.toList (λ_ x=>wdB x) (λi=>[(0,.str s),(3,I i)]) 0 (λfr=>get fr 0=.str s) (λfr=>get fr 2=.bool false) (λi=>rfl)
  (λi x hx hP=>by
   obtain⟨hg,hi0⟩:=ZP2 hx;have hi:=Zh hi0;have hw:=Zx (n:=i)<|by omega
   have hn:((i:Int)).toNat=i:=rfl;have hi0':(0<=(i:Int))=True:=by simp
   have hP':wdI x.toNat=true:=hP;refine⟨_,by simp only[go_sem,c59L0b,hi,hw,hn,hg,hi0',ZRF,hP',if_true,ZWN,ZWo];rfl,?_⟩
   simp only[go_sem])
  (λi x hx hP=>by
   obtain⟨hg,hi0⟩:=ZP2 hx;have hi:=Zh hi0;have hn:((i:Int)).toNat=i:=rfl;have hi0':(0<=(i:Int))=True:=by simp
   have hP':wdI x.toNat=false:=hP;refine⟨_,by simp only[go_sem,c59L0b,hi,hn,hg,hi0',ZRF,hP',if_true,ZWN,ZWq];rfl,?_⟩
   simp only[go_sem])
  (by
   rw[ZOI];exact⟨_,by simp only[go_sem,c59L0b,ZG];rfl,by simp only[go_sem]⟩)
 rw[QE]at L;obtain⟨fr',h1,h3,h2⟩:=L;have h1':Zg rE [0,3] c59L0b [(0,.str s),(3,.int .i64 0)] []=_:=h1;rw[Z5 (f:=59) rfl rfl];unfold ZOQ;have e0:decide ((s.size:Int)>0)=decide (0<s.size):=by rw[decide_eq_decide];omega
 cases hc:s.data.toList.all wdB with
 |false=>rw[hc]at h1';simp only[go_sem,c59,c59L0,h1',h2 hc,ZWr,ZWt]
 |true=>
  rw[hc]at h1';have h3:=h3 hc;cases c1:decide (0<s.size)with
  |false=>simp only[go_sem,c59,c59L0,h1',h3,e0,c1,ZWr,ZWp]
  |true=>
   have hp:=of_decide_eq_true c1;have hg:=DQ (s:=s) (i:=0) hp;have ez:(0:Int).toNat=0:=rfl;cases c2:decide ((s.size:Int)<=24)with
   |false=>simp only[go_sem,c59,c59L0,h1',h3,e0,c1,c2,ZWr,ZWp]
   |true=>simp only[go_sem,c59,c59L0,h1',h3,e0,c1,c2,hg,ez,ZRE,Xc,ZWp,ZYK,if_true,ZWN]
def ZTK:∀k:Fin 256,[3,4,5].any (λx=>K1 k.val==x)=wdI k.val:=by decide +kernel
def ZTL:∀k:Fin 256,(K1 k.val==3)=ltI k.val:=by decide +kernel
def ZRG{s:Str}{i:Nat}(h:i<s.size):atT s i=K1 (Xc s i):=by
 unfold atT;have:decide ((i:Int)>=(s.size:Int))=false:=decide_eq_false<|by omega
 rw[this,cond_false]
def ZRH{s:Str}{i:Nat}(h:i<s.size):[3,4,5].any (λx=>atT s i==x)=wdI (Xc s i):=by
 rw[ZRG h];exact ZTK ⟨Xc s i,DP s i⟩
def ZRI{s:Str}{i:Nat}(h:i<s.size):(atT s i==3)=ltI (Xc s i):=by
 rw[ZRG h];exact ZTL ⟨Xc s i,DP s i⟩
def ZRJ(s:Str)(cs:List Int):∀k i j,i<=j->j<Xd s cs k i->cs.any (λx=>atT s j==x)=true
 |0,i,j,h1,h2=>by rw[Xd]at h2;omega
 |k+1,i,j,h1,h2=>by
  rw[Xd]at h2;cases c:decide ((i:Int)<(s.size:Int))&&cs.any (λx=>atT s i==x)with
  |false=>rw[c,cond_false]at h2;omega
  |true=>
   rw[c,cond_true]at h2;by_cases e:i=j
   .subst e;rw[ZWn]at c;exact c.2
   .exact ZRJ s cs k (i+1) j (by omega) h2
def ZRK(s:Str)(cs:List Int)(h:∀j,j<s.size->cs.any (λx=>atT s j==x)=true):∀k i,i+k=s.size->Xd s cs k i=s.size
 |0,i,e=>by rw[Xd];omega
 |k+1,i,e=>by
  rw[Xd,h i (by omega),decide_eq_true (by omega),ZWp,cond_true]
  exact ZRK s cs h k (i+1)<|by omega
def ZRL(s:Str):∀k i out,(Xf s k i out).toks=[]\/∃r,(Xf s k i out).toks=out++r
 |0,i,out=>Or.inl rfl
 |k+1,i,out=>by
  unfold Xf;cases decide ((i:Int)<(s.size:Int))with
  |false=>exact Or.inr ⟨[],by simp⟩
  |true=>
   rw[cond_true];cases ND (We s i) out != 0 with
   |true=>exact Or.inl rfl
   |false=>
    rw[cond_false];rcases ZRL s k (YP s (We s i).stop.toNat) (out++[(We s i).tok])with h|⟨r,h⟩
    .exact Or.inl h
    .exact Or.inr ⟨(We s i).tok::r,by rw[h];simp⟩
def ZTM{s:Str}{i:Nat}(h:(We s i).tok.bq=1):(atT s i==3)=true/\(We s i).tok.Text=ZX s i (ZI s [3,4,5] i)/\decide (W ((ZI s [3,4,5] i:Int)-(i:Int))>24)=false:=by
 unfold We at h⊢;generalize(atT s i==3)=a1 at h⊢;generalize(atT s i==4)=a2 at h⊢;generalize(atT s i==6)=a3 at h⊢;generalize(atT s i==7)=a4 at h⊢;generalize(atT s i==8)=a5 at h⊢;generalize(atT s i==9)=a6 at h⊢;generalize H4 s i=a7 at h⊢;generalize decide (quN s i>400)=a8 at h⊢;generalize Xe (ZX s (i+1) s.size) (B [61])=a9 at h⊢;generalize(decide (W ((ZI s [4] i:Int)-(i:Int))>13)||(atT s (ZI s [4] i)==3||atT s (ZI s [4] i)==5))=b1 at h⊢;generalize decide (W ((ZI s [3,4,5] i:Int)-(i:Int))>24)=b2 at h⊢;cases a1 with
 |true=>
  cases b2 with
  |true=>(simp only[cond_true,cond_false,ZWS,ZX0,Yw]at h;omega)
  |false=>exact⟨rfl,rfl,rfl⟩
 |false=>
  cases a2 with
  |true=>cases b1<;>(simp only[cond_true,cond_false,ZWS,ZX0,Yw]at h;omega)
  |false=>
   cases a3 with
   |true=>cases a7<;>cases a8<;>(simp only[cond_true,cond_false,ZWS,ZX0,Yw]at h;omega)
   |false=>
    cases a4<;>cases a5<;>cases a9<;>cases a6<;>(simp only[cond_true,cond_false,ZWS,ZX0,Yw]at h;omega)
def ZRM{s:Str}(h:ZZ s=true):s.size<=20000:=by
 unfold ZZ at h;rw[ZWn]at h;unfold Up at h;cases hd:decide ((s.size:Int)>20000)with
 |true=>rw[hd]at h;simp at h
 |false=>have:=of_decide_eq_false hd;omega
def ZTN{s:Str}(h:ZZ s=true):∃i,(We s i).tok.bq=1/\(We s i).tok.Text=s/\i<s.size:=by
 unfold ZZ at h;rw[ZWn]at h;obtain⟨h1,h2⟩:=h;unfold Up at h1 h2;cases hd:decide ((s.size:Int)>20000)with
 |true=>rw[hd]at h1;simp at h1
 |false=>
  rw[hd,cond_false]at h1 h2;refine⟨YP s 0,?_⟩;unfold Xf at h2;cases hi:decide (((YP s 0:Nat):Int)<(s.size:Int))with
  |false=>rw[hi]at h2;simp at h2
  |true=>
   rw[hi,cond_true]at h2;cases he:ND (We s<|YP s 0) [] != 0 with
   |true=>rw[he]at h2;simp at h2
   |false=>
    rw[he,cond_false]at h2;rcases ZRL s s.size (YP s (We s<|YP s 0).stop.toNat) ([]++[(We s<|YP s 0).tok])with k|⟨r,k⟩
    .rw[k]at h2;simp at h2
    .rw[k]at h2;cases r with
     |cons a r=>simp at h2
     |nil=>
      simp only[ZWZ,ZXe,ZWn]at h2;have hlt:=of_decide_eq_true hi;exact⟨eq_of_beq h2.1,(Ky _ _).1 h2.2,by omega⟩
def ZTO{s:Str}(h:ZZ s=true):ZOQ s=true:=by
 obtain⟨i,h1,h2,hi⟩:=ZTN h;obtain⟨h0,h3,h4⟩:=ZTM h1;have hz:=ZRM h;have hle:=K3 s [3,4,5] (i:=i)<|by omega
 have hge:=K2 s [3,4,5] i;have hsz:(ZX s i<|ZI s [3,4,5] i).size=ZI s [3,4,5] i-i:=by rw[ByteArray.size_extract];omega
 have he:ZI s [3,4,5] i-i=s.size:=by rw[<-hsz,<-h3,h2]
 have hi0:i=0:=by omega
 subst hi0;have hW:W ((ZI s [3,4,5] 0:Int)-((0:Nat):Int))=(ZI s [3,4,5] 0:Int)-((0:Nat):Int):=YM (by omega)<|by omega
 rw[hW]at h4;have h4':=of_decide_eq_false h4;unfold ZOQ;rw[ZWn,ZWn,ZWn];refine⟨?_,decide_eq_true hi,decide_eq_true (by omega),by rw[<-ZRI hi];exact h0⟩
 rw[ZWF];intro b hb;obtain⟨m,hm⟩:=ZYl.1 hb;obtain⟨hg,hml⟩:=ZP2 hm;have hin:=ZRJ s [3,4,5] (s.size-0) 0 m (by omega)<|by unfold ZI at he;omega
 rw[ZRH hml]at hin;have e:Xc s m=b.toNat:=by unfold Xc;rw[ZX3,hg];rfl
 rw[e]at hin;exact hin
def ZTP(s:Str):YP s s.size=s.size:=by
 unfold YP;have e:ZI s [1] s.size=s.size:=by unfold ZI;rw[ZYr,Xd]
 rw[e];unfold K4;have:atT s s.size=0:=by unfold atT;rw[decide_eq_true (by omega),cond_true]
 rw[this];rfl
def ZTQ{s:Str}(h:ZOQ s=true):ZZ s=true:=by
 unfold ZOQ at h;rw[ZWn,ZWn,ZWn]at h;obtain⟨h1,h2,h3,h4⟩:=h;have hp:=of_decide_eq_true h2;have h24:=of_decide_eq_true h3;have hall:∀j,j<s.size->[3,4,5].any (λx=>atT s j==x)=true:=λj hj=>by
  rw[ZRH hj];have hg:=DQ hj;have hm:s.data.getD j 0∈s.data.toList:=by
   rw[ZYl];exact⟨j,by simpa using hg⟩
  exact ZWF.1 h1 _ hm
 have ha:(atT s 0==3)=true:=by rw[ZRI hp];exact h4
 have ha':atT s 0=3:=eq_of_beq ha;have hw0:ZI s [1] 0=0:=by
  rw[NB s [1] hp,ha'];rfl
 have hg0:YP s 0=0:=by
  unfold YP;rw[hw0];unfold K4;rw[ha'];rfl
 have hW:ZI s [3,4,5] 0=s.size:=by unfold ZI;exact ZRK s _ hall _ 0<|by omega
 have hd:decide (W (((s.size:Nat):Int)-((0:Nat):Int))>24)=false:=by
  have:W (((s.size:Nat):Int)-((0:Nat):Int))=(s.size:Int)-((0:Nat):Int):=YM (by omega)<|by omega
  rw[this];exact decide_eq_false<|by omega
 have hn:We s 0=⟨⟨1,((0:Nat):Int),0,s⟩,s.size,0⟩:=by
  unfold We;rw[ha,cond_true,hW,hd,cond_false];have:ZX s 0 s.size=s:=ByteArray.extract_zero_size;rw[this]
 have hl:Up s=⟨[⟨1,((0:Nat):Int),0,s⟩],0,0⟩:=by
  unfold Up;rw[decide_eq_false (by omega),cond_false,hg0]
  unfold Xf;rw[decide_eq_true (by omega),cond_true,hn]
  have e:(ND ⟨⟨1,((0:Nat):Int),0,s⟩,s.size,0⟩ [] != 0)=false:=rfl;rw[e,cond_false];have e2:((⟨⟨1,((0:Nat):Int),0,s⟩,(s.size:Int),0⟩:Nx).stop).toNat=s.size:=rfl;rw[e2,ZTP];obtain⟨k,hk⟩:∃k,s.size=k+1:=⟨s.size-1,by omega⟩
  have e3:∀out,Xf s s.size s.size out=⟨out,0,0⟩:=λout=>by
   generalize hz:s.size=z at*;rw[hk];unfold Xf;rw[hz,decide_eq_false (by omega),cond_false]
  rw[e3];rfl
 unfold ZZ;rw[hl];simp[Ky]
def ZTR(s:Str):ZOQ s=ZZ s:=by
 cases h:ZZ s with
 |true=>exact ZTO h
 |false=>
  cases h2:ZOQ s with
  |false=>rfl
  |true=>rw[ZTQ h2]at h;cases h
def ZOe(s:Str)(hs:s.size<=1000000):pfn rE 59 [.str s]=some (.bool<|ZZ s):=by rw[ZTJ s hs,ZTR]
def skB(s:Str)(bl:Bool)(i:Nat)(x:UInt8):Bool:=((x.toNat:Int)==32)&&(bl&&(decide ((i:Int)>0)&&(decide (((i+1:Nat):Int)<(s.size:Int))&&((Xc s (i-1):Int) != 32))))
def ZOr(s:Str)(bl:Bool)(i:Nat)(x:UInt8):Bool:=skB s bl i x||!H7 x.toNat
def plT(s:Str)(lo hi:Int)(bl:Bool):Bool:=Zu (ZOr s bl) 0 s.data.toList&&(decide ((s.size:Int)>=lo)&&decide ((s.size:Int)<=hi))
def ZRN(s:Str)(lo hi:Int)(bl:Bool)(hs:s.size<=1000000):pfn rE 109 [.str s,I lo,I hi,.bool bl]=some (.bool<|plT s lo hi bl):=by
 have L:=QT (E:=rE) (live:=[0,1,2,3,9]) (b:=c109L0b) (h:=[]) s.data.toList (ZOr s bl) (λi=>[(0,.str s),(1,I lo),(2,I hi),(3,.bool bl),(9,I i)]) 0
  (λfr=>get fr 0=.str s/\get fr 1=I lo/\get fr 2=I hi) (λfr=>get fr 8=.bool false) (λi=>rfl)
  (λi x hx hP=>by
   obtain⟨hg,hi0⟩:=ZP2 hx;have hi:=Zh hi0;have hw:=Zx (n:=i)<|by omega
   have hn:((i:Int)).toNat=i:=rfl;have hi0':(0<=(i:Int))=True:=by simp
   unfold ZOr at hP;cases hk:skB s bl i x with
   |true=>
    unfold skB at hk;simp only[ZWn]at hk;obtain⟨c1,rfl,c5003,c5004,c5005⟩:=hk;rcases i with _|j
    .cases c5003
    .have hgj:=DQ (s:=s) (i:=j) (by omega)
     have hs1:IntKind.i64.wrap (((j+1:Nat):Int)-1)=((j:Nat):Int):=by rw[YM (by omega)<|by omega];omega
     have hnj:((j:Int)).toNat=j:=rfl;have hj0:(0<=(j:Int))=True:=by simp
     have c5':(((s.data.getD j 0).toNat:Int) != 32)=true:=c5005;refine⟨_,by simp only[go_sem,c109L0b,hi,hw,hn,hg,hi0',c1,c5003,c5004,hs1,hnj,hj0,hgj,c5',if_true,ZWN];rfl,?_⟩
     simp only[go_sem]
   |false=>
    rw[hk,ZWB,ZWG]at hP;unfold H7 at hP;simp only[ZXE]at hP;obtain⟨⟨d1,d2⟩,d3⟩:=hP;have c1:((x.toNat:Int)==32)=false:=by
     have:=of_decide_eq_false d1;rw[beq_eq_false_iff_ne];omega
    refine⟨_,by simp only[go_sem,c109L0b,hi,hw,hn,hg,hi0',c1,d1,d2,d3,if_true,ZWN];rfl,?_⟩
    simp only[go_sem])
  (λi x hx hP=>by
   obtain⟨hg,hi0⟩:=ZP2 hx;have hi:=Zh hi0;have hw:=Zx (n:=i)<|by omega
   have hn:((i:Int)).toNat=i:=rfl;have hi0':(0<=(i:Int))=True:=by simp
   unfold ZOr at hP;rw[ZXE,ZXK]at hP;obtain⟨hk,ho⟩:=hP;unfold H7 at ho;unfold skB at hk;cases c1:((x.toNat:Int)==32)with
   |false=>
    cases d1:decide ((x.toNat:Int)<33)with
    |true=>
     refine⟨_,by simp only[go_sem,c109L0b,hi,hn,hg,hi0',c1,d1,if_true,ZWN];rfl,?_⟩
     simp only[go_sem]
    |false=>
     cases d2:decide ((x.toNat:Int)>126)with
     |true=>
      refine⟨_,by simp only[go_sem,c109L0b,hi,hn,hg,hi0',c1,d1,d2,if_true,ZWN];rfl,?_⟩
      simp only[go_sem]
     |false=>
      rw[d1,d2,ZWB,ZWB]at ho;refine⟨_,by simp only[go_sem,c109L0b,hi,hn,hg,hi0',c1,d1,d2,ho,if_true,ZWN];rfl,?_⟩
      simp only[go_sem]
   |true=>
    have d1:decide ((x.toNat:Int)<33)=true:=by have:=eq_of_beq c1;exact decide_eq_true<|by omega
    rw[c1,ZWp]at hk;cases bl with
    |false=>
     refine⟨_,by simp only[go_sem,c109L0b,hi,hn,hg,hi0',c1,d1,if_true,ZWN];rfl,?_⟩
     simp only[go_sem]
    |true=>
     rcases i with _|j
     .have h0:decide (((0:Nat):Int)>0)=false:=rfl;refine⟨_,by simp only[go_sem,c109L0b,hi,hn,hg,hi0',c1,d1,h0,if_true,ZWN];rfl,?_⟩
      simp only[go_sem]
     .have h0:decide (((j+1:Nat):Int)>0)=true:=decide_eq_true (by omega)
      rw[h0,ZWp,ZWp]at hk;cases c5004:decide (((j+1+1:Nat):Int)<(s.size:Int))with
      |false=>
       refine⟨_,by simp only[go_sem,c109L0b,hi,hw,hn,hg,hi0',c1,d1,h0,c5004,if_true,ZWN];rfl,?_⟩
       simp only[go_sem]
      |true=>
       rw[c5004,ZWp]at hk;have hgj:=DQ (s:=s) (i:=j)<|by omega
       have hs1:IntKind.i64.wrap (((j+1:Nat):Int)-1)=((j:Nat):Int):=by rw[YM (by omega)<|by omega];omega
       have hnj:((j:Int)).toNat=j:=rfl;have hj0:(0<=(j:Int))=True:=by simp
       have c5':(((s.data.getD j 0).toNat:Int) != 32)=false:=hk;refine⟨_,by simp only[go_sem,c109L0b,hi,hw,hn,hg,hi0',c1,d1,h0,c5004,hs1,hnj,hj0,hgj,c5',if_true,ZWN];rfl,?_⟩
       simp only[go_sem])
  (by
   rw[ZOI];exact⟨_,by simp only[go_sem,c109L0b,ZG];rfl,by simp only[go_sem],by simp only[go_sem],by simp only[go_sem]⟩)
 obtain⟨fr',h1,h3,h2⟩:=L;have h1':Zg rE [0,1,2,3,9] c109L0b [(0,.str s),(1,I lo),(2,I hi),(3,.bool bl),(9,.int .i64 0)] []=_:=h1;rw[Z5 (f:=109) rfl rfl];unfold plT;cases hc:Zu (ZOr s bl) 0 s.data.toList with
 |false=>rw[hc]at h1';simp only[go_sem,c109,c109L0,h1',h2 hc,ZWr,ZWt]
 |true=>
  rw[hc]at h1';obtain⟨g0,g1,g2⟩:=h3 hc;cases c1:decide ((s.size:Int)>=lo)<;>simp only[go_sem,c109,c109L0,h1',g0,g1,g2,c1,ZWr,ZWp]
def ZTS(s:Str)(hs:s.size<=1000000):pfn rE 182 [.str s]=some (.bool<|plT s 1 60 true):=by
 rw[Z5 (f:=182) rfl rfl];simp only[go_sem,c182,ZRN s _ _ _ hs]
def vlB(s:Str):Bool:=s.data.toList.all (λb=>!H8 b.toNat)&&(decide ((s.size:Int)>=1)&&decide ((s.size:Int)<=60))
def ZTT(s:Str)(hs:s.size<=1000000):pfn rE 112 [.str s]=some (.bool<|vlB s):=by
 have L:=QT (E:=rE) (live:=[0,3]) (b:=c112L0b) (h:=[]) s.data.toList (λ_ b=>!H8 b.toNat) (λi=>[(0,.str s),(3,I i)]) 0 (λfr=>get fr 0=.str s) (λfr=>get fr 2=.bool false) (λi=>rfl)
  (λi x hx hP=>by
   obtain⟨hg,hi0⟩:=ZP2 hx;have hi:=Zh hi0;have hw:=Zx (n:=i)<|by omega
   have hn:((i:Int)).toNat=i:=rfl;have hi0':(0<=(i:Int))=True:=by simp
   unfold H8 at hP;have hy:∃y:Int,((x.toNat:Nat):Int)=y:=⟨_,rfl⟩;obtain⟨y,hy⟩:=hy;rw[hy]at hP;cases c1:decide (y<48)<;>cases c2:decide (y>57)<;>cases c5003:decide (y<97)<;>cases c5004:decide (y>122)<;>cases c5005:decide (y<65)<;>cases c5006:decide (y>90)<;>rw[c1,c2,c5003,c5004,c5005,c5006]at hP<;>first
    |exact absurd hP<|by decide
    |(refine⟨_,by simp only[go_sem,c112L0b,hi,hw,hn,hg,hi0',hy,c1,c2,c5003,c5004,c5005,c5006,if_true,ZWN];rfl,?_⟩;simp only[go_sem]))
  (λi x hx hP=>by
   obtain⟨hg,hi0⟩:=ZP2 hx;have hi:=Zh hi0;have hn:((i:Int)).toNat=i:=rfl;have hi0':(0<=(i:Int))=True:=by simp
   unfold H8 at hP;have hy:∃y:Int,((x.toNat:Nat):Int)=y:=⟨_,rfl⟩;obtain⟨y,hy⟩:=hy;rw[hy]at hP;cases c1:decide (y<48)<;>cases c2:decide (y>57)<;>cases c5003:decide (y<97)<;>cases c5004:decide (y>122)<;>cases c5005:decide (y<65)<;>cases c5006:decide (y>90)<;>rw[c1,c2,c5003,c5004,c5005,c5006]at hP<;>first
    |exact absurd hP<|by decide
    |(refine⟨_,by simp only[go_sem,c112L0b,hi,hn,hg,hi0',hy,c1,c2,c5003,c5004,c5005,c5006,if_true,ZWN];rfl,?_⟩;simp only[go_sem]))
  (by
   rw[ZOI];exact⟨_,by simp only[go_sem,c112L0b,ZG];rfl,by simp only[go_sem]⟩)
 obtain⟨fr',h1,h3,h2⟩:=L;have h1':Zg rE [0,3] c112L0b [(0,.str s),(3,.int .i64 0)] []=_:=h1;rw[Z5 (f:=112) rfl rfl];unfold vlB;rw[QE]at*;cases hc:s.data.toList.all (λb=>!H8 b.toNat)with
 |false=>rw[hc]at h1';simp only[go_sem,c112,c112L0,h1',h2 hc,ZWr,ZWt]
 |true=>
  rw[hc]at h1';have h3:=h3 hc;cases c1:decide ((s.size:Int)>=1)<;>simp only[go_sem,c112,c112L0,h1',h3,c1,ZWr,ZWp]
def ZTU(s:Str)(i:Nat)(h:Xc s i<128):Utf8.decode s i=(Xc s i,1):=by
 have e:(s.get! i).toNat=Xc s i:=rfl;unfold Utf8.decode;simp only[ZWV,e,h,if_true]
def ZTV(s:Str)(i:Nat)(h:128<=Xc s i):128<=(Utf8.decode s i).1:=by
 have e:(s.get! i).toNat=Xc s i:=rfl;unfold Utf8.decode;have h':¬Xc s i<128:=by omega
 have he:Utf8.runeError=65533:=rfl;simp only[ZWV,e,h',if_false,he];split
 .split<;>simp_all
 .split
  .split<;>simp_all<;>omega
  .split
   .split<;>simp_all<;>omega
   .simp
def ZRO(p:Int->Bool)(hp:∀c:Nat,128<=c->p c=true)(s:Str):∀k i,s.size-i<k->decide (XI p s k i>=0)=(s.data.toList.drop i).any (λb=>p b.toNat)
 |0,i,h=>by omega
 |k+1,i,h=>by
  unfold XI;by_cases hi:i<s.size
  .have hb:Nat.blt i s.size=true:=by rw[N7];exact decide_eq_true hi
   have hl:i<s.data.toList.length:=by rw[ZOI];exact hi
   have hb0:Xc s i=(s.data.toList[i]'hl).toNat:=by
    unfold Xc;rw[ZX3,<-ZXI,ZWu hl];rfl
   rw[hb,cond_true,ZXZ hl,ZXq,<-hb0];by_cases h8:Xc s i<128
   .rw[ZTU s i h8];cases hc:p (Xc s i)with
    |true=>simp
    |false=>
     rw[cond_false,ZWB];exact ZRO p hp s k (i+1)<|by omega
   .have h8':128<=Xc s i:=by omega
    rw[hp _<|ZTV s i h8',hp _ h8'];simp
  .have hb:Nat.blt i s.size=false:=by rw[N7];exact decide_eq_false hi
   rw[hb,cond_false,ZZk<|by rw[ZOI];omega]
   rfl
def ZQj(p:Int->Bool)(hp:∀c:Nat,128<=c->p c=true)(s:Str):H6 p s=s.data.toList.any (λb=>p b.toNat):=by
 unfold H6;rw[ZRO p hp s _ 0 (by omega),ZXu]
def ZRP(c:Nat)(h:128<=c):H7 c=true:=by
 unfold H7;rw[decide_eq_true (show(c:Int)>126 by omega)];simp
def ZTW(c:Nat)(h:128<=c):H8 c=true:=by
 unfold H8;rw[decide_eq_true (show(c:Int)>57 by omega),decide_eq_true (show(c:Int)>122 by omega),decide_eq_true (show(c:Int)>90 by omega)];simp
def ZQk(s:Str):(!Z3 s emp)=decide ((s.size:Int)>=1):=by
 cases h:Z3 s emp with
 |true=>
  rw[(Ky _ _).1 h];rfl
 |false=>
  symm
  rw[ZWq,decide_eq_true_eq];have:s.size≠0:=λe=>by
   have:s=emp:=ByteArray.ext<|ZYo e;rw[this,(Ky _ _).2 rfl]at h;cases h
  omega
def ZPf{α:Type}(p:α->Bool)(l:List α):l.all (λb=>!p b) = !l.any p:=by
 induction l with
 |nil=>rfl
 |cons a r ih=>simp[ih]
def ZTX(s:Str)(hs:s.size<=1000000):pfn rE 112 [.str s]=some (.bool<|Uu s):=by
 rw[ZTT s hs];unfold vlB Uu;rw[ZQk,ZQj H8 ZTW,ZPf (λb:UInt8=>H8 b.toNat)]
 cases s.data.toList.any (λb:UInt8=>H8 b.toNat)<;>simp
def ZOB(b:UInt8):Bool:=!H7 b.toNat
def gdW(w:List UInt8):Bool:=!w.isEmpty&&w.all ZOB
def gT:Bool->List UInt8->Bool
 |st,[]=>!st
 |st,x::r=>bif x==32 then !st&&gT true r else ZOB x&&gT false r
def ZQl:List (List UInt8)->Bool
 |[]=>true
 |w::ws=>w.all ZOB&&ws.all gdW
def Z6q:ZOB 32=false:=rfl
def ZRQ:∀l:List UInt8,gT true l=(Q4 32 l).all gdW/\gT false l=ZQl (Q4 32 l)
 |[]=>⟨rfl,rfl⟩
 |x::r=>by
  obtain⟨h1,h2⟩:=ZRQ r;unfold gT Q4;cases hx:x==32 with
  |true=>rw[cond_true,cond_true,cond_true,h1];exact⟨rfl,rfl⟩
  |false=>
   rw[cond_false,cond_false,cond_false,h2];cases hs:Q4 32 r with
   |nil=>simp[ZQl,gdW]
   |cons w ws=>simp[ZQl,gdW,ZXO]
def ZQm(c:UInt8):∀(l:List UInt8),∀w∈Q4 c l,w.length<=l.length
 |[],w,h=>by simp[Q4]at h;subst h;simp
 |x::r,w,h=>by
  unfold Q4 at h;cases hx:x==c with
  |true=>
   rw[hx,cond_true]at h;rcases ZWJ.1 h with rfl|h
   .simp
   .have:=ZQm c r w h;simp;omega
  |false=>
   rw[hx,cond_false]at h;have ih:=ZQm c r;cases hs:Q4 c r with
   |nil=>rw[hs]at h;simp at h;subst h;simp
   |cons v vs=>
    rw[hs]at h ih;rcases ZWJ.1 h with rfl|h
    .have:=ih v (by simp);simp;omega
    .have:=ih w (by simp[h]);simp;omega
def ZOs{α:Type}{p q:α->Bool}:∀{l:List α},(∀x∈l,p x=q x)->l.all p=l.all q
 |[],_=>rfl
 |a::r,h=>by rw[ZX8,ZX8,h a (by simp),ZOs λx hx=>h x<|by simp[hx]]
def ZTY{w:List UInt8}:(!w.isEmpty)=decide ((w.length:Int)>=1):=by
 cases w with
 |nil=>rfl
 |cons a r=>simp;omega
def ZTZ(w:List UInt8)(h:w.length<=60):(!H9 ⟨⟨w⟩⟩)=gdW w:=by
 have hz:ByteArray.size ⟨⟨w⟩⟩=w.length:=rfl;unfold H9 Jm gdW;rw[ZYO,ZQk,ZQj H7 ZRP,hz,ZTY,decide_eq_true (show(w.length:Int)<=60 by omega),ZWp]
 show(_&&!w.any (λb:UInt8=>H7 b.toNat))=_
 unfold ZOB;rw[ZPf (λb:UInt8=>H7 b.toNat)]
def ZU0(s:Str):Uv s=(decide ((s.size:Int)<=60)&&gT true s.data.toList):=by
 unfold Uv;cases h:decide ((s.size:Int)<=60)with
 |false=>rfl
 |true=>
  rw[ZWp,ZWp,(ZRQ _).1,<-ZPf];unfold Yy;rw[ZYw];apply ZOs;intro w hw;have:=ZQm 32 _ w hw;rw[ZOI]at this;exact ZTZ w (by have:=of_decide_eq_true h;omega)
def ZRR(s:Str):∀(l:List UInt8)(i:Nat),s.data.toList.drop i=l->l≠[]->Zu (ZOr s true) i l=gT (decide (i=0)||Xc s (i-1)==32) l
 |[],i,h,hn=>absurd rfl hn
 |x::r,i,h,_=>by
  have hlen:s.data.toList.length-i=r.length+1:=by rw[<-ZYk,h];rfl
  rw[ZOI]at hlen;have hx:s.data.toList[i]?=some x:=by
   have:=ZY0 (xs:=s.data.toList) (i:=i) (j:=0);rw[h]at this;simpa using this.symm
  have hb:Xc s i=x.toNat:=by
   unfold Xc;rw[ZX3,<-ZXI,hx];rfl
  have hr:s.data.toList.drop (i+1)=r:=by
   rw[<-ZXA,h];rfl
  have e32:((x.toNat:Int)==32)=(x==32):=by
   rw[ZWK,beq_iff_eq,beq_iff_eq];constructor
   .intro e;apply UInt8.toNat_inj.1;have:(32:UInt8).toNat=32:=rfl;omega
   .intro e;rw[e];rfl
  have e33:(Xc s i==32)=(x==32):=by
   rw[hb,<-e32,ZWK,beq_iff_eq,beq_iff_eq];omega
  have eo:H7 x.toNat = !ZOB x:=by unfold ZOB;rw[ZYO]
  show(ZOr s true i x&&Zu (ZOr s true) (i+1) r)=_
  rw[show ZOr s true i x=(skB s true i x||!H7 x.toNat)from rfl]
  unfold gT skB;rw[e32,eo,ZYO];cases r with
  |nil=>
   have hsz:decide (((i+1:Nat):Int)<(s.size:Int))=false:=by rw[decide_eq_false_iff_not];simp at hlen;omega
   rw[hsz];cases hx2:x==32 with
   |true=>rw[eq_of_beq hx2,Z6q];simp[gT,Zu]
   |false=>simp[gT,Zu]
  |cons y r'=>
   have hsz:decide (((i+1:Nat):Int)<(s.size:Int))=true:=by rw[decide_eq_true_iff];simp at hlen;omega
   have ih:=ZRR s (y::r') (i+1) hr<|by simp
   have e1:decide (i+1=0)=false:=by simp
   rw[ih,hsz,e1,ZWB,Nat.add_sub_cancel,e33];cases hx2:x==32 with
   |false=>simp
   |true=>
    rw[eq_of_beq hx2,Z6q,cond_true,ZWp,ZWp,ZWp,ZWS];have:(decide ((i:Int)>0)&&((Xc s (i-1):Int) != 32)) = !(decide (i=0)||Xc s (i-1)==32):=by
     rw[Bool.not_or,<-decide_not];congr 1
     .rw[decide_eq_decide];omega
     .rw[bne,Bool.not_eq_eq_eq_not,ZYO,ZWK,beq_iff_eq,beq_iff_eq];omega
    rw[this]
def ZU1(s:Str):plT s 1 60 true=Uv s:=by
 rw[ZU0];unfold plT;cases hl:s.data.toList with
 |nil=>
  have:s.size=0:=by rw[<-ZOI,hl];rfl
  rw[this];rfl
 |cons x r=>
  have hp:decide ((s.size:Int)>=1)=true:=by
   rw[decide_eq_true_iff,<-ZOI,hl,ZWH];omega
  rw[<-hl,ZRR s s.data.toList 0 rfl (by rw[hl];simp),hp,ZWp,ZZ0]
  rfl
def ZU2(s:Str)(hi:Int):plT s 1 hi false=Jm s hi:=by
 have e:ZOr s false=λ_ x=>ZOB x:=by
  funext i x
  unfold ZOr skB ZOB;simp
 unfold plT Jm;rw[e,QE,ZQk,ZQj H7 ZRP];unfold ZOB;rw[ZPf (λb:UInt8=>H7 b.toNat)]
 cases s.data.toList.any (λb:UInt8=>H7 b.toNat)<;>simp
def ZRS(s:Str)(hs:s.size<=1000000):pfn rE 182 [.str s]=some (.bool<|Uv s):=by rw[ZTS s hs,ZU1]
def ZU3(s:Str)(hi:Int)(hs:s.size<=1000000):pfn rE 109 [.str s,.int .i64 1,I hi,.bool false]=some (.bool<|Jm s hi):=by
 rw[<-ZU2];exact ZRN s 1 hi false hs
def pwD{α:Type}(eq:α->α->Bool):List α->List α->Bool
 |_,[]=>true
 |K,x::r=>!K.any (eq x)&&pwD eq (K++[x]) r
def ZPP{α:Type}(eq:α->α->Bool):∀(l K:List α),(l.foldl (Qi eq) K).length<=K.length+l.length/\((l.foldl (Qi eq) K).length=K.length+l.length↔pwD eq K l=true)
 |[],K=>⟨by simp,by simp[pwD]⟩
 |x::r,K=>by
  rw[ZXd];unfold pwD;have e:Qi eq K x=bif K.any (eq x)then K else K++[x]:=rfl;rw[e];cases hx:K.any (eq x)with
  |true=>
   obtain⟨h1,h2⟩:=ZPP eq r K;rw[cond_true,ZWH];refine⟨by omega,⟨λh=>by omega,λh=>by simp at h⟩⟩
  |false=>
   obtain⟨h1,h2⟩:=ZPP eq r<|K++[x];rw[cond_false,ZWH];rw[ZWz,ZXs]at h1 h2;refine⟨by omega,?_⟩
   rw[show K.length+(r.length+1)=K.length+1+r.length by omega,h2]
   simp
def ZRT{α:Type}(eq:α->α->Bool):∀(r K:List α),Zu (λi x=>!((K++r).take i).any (eq x)) K.length r=pwD eq K r
 |[],K=>rfl
 |x::r,K=>by
  have h:=ZRT eq r<|K++[x];rw[ZWW,ZZg,ZWz,ZXs]at h;show(!((K++x::r).take K.length).any (eq x)&&Zu _ (K.length+1) r)=_
  rw[h,List.take_left];rfl
def ZPQ{α:Type}(eq:α->α->Bool)(l:List α):XH eq l=Zu (λi x=>!(l.take i).any (eq x)) 0 l:=by
 have h:=ZRT eq l [];rw[ZWZ]at h;rw[show(0:Nat)=([]:List α).length from rfl,h]
 unfold XH;have h2:=(ZPP eq l []).2;rw[ZWQ,ZWD]at h2;rw[ZWK,beq_iff_eq,<-h2];omega
def ZPr{α:Type}(P Q:Nat->α->Bool):∀(l:List α)(i:Nat),Zu (λi x=>P i x&&Q i x) i l=(Zu P i l&&Zu Q i l)
 |[],i=>rfl
 |x::r,i=>by
  show((P i x&&Q i x)&&Zu (λi x=>P i x&&Q i x) (i+1) r)=((P i x&&Zu P (i+1) r)&&(Q i x&&Zu Q (i+1) r))
  rw[ZPr P Q r<|i+1];generalize Zu P (i+1) r=a;generalize Zu Q (i+1) r=b;cases P i x<;>cases Q i x<;>cases a<;>cases b<;>rfl
def ZP3{α:Type}{P Q:Nat->α->Bool}(l:List α)(i:Nat)(h:∀i x,P i x=Q i x):Zu P i l=Zu Q i l:=by
 rw[show P=Q from funext λi=>funext λx=>h i x]
def ZP4(x y:Str):Z3 x y=Z3 y x:=by
 rw[ZWK,Ky,Ky];exact eq_comm
def ZPg{α:Type}(p:α->Bool)(l:List α):(!l.any p)=l.all (λb=>!p b):=(ZPf p l).symm
def Vx(l:List Str)(i:Nat)(x:Str):Bool:=ZZ x&&(l.take i).all (λy=>!Z3 y x)
def ZRU(bw ex:Bool)(l:List Str)(hl:l.length<=1000000)(i:Nat)(x:Str)(hx:l[i]?=some x):∃fr',Zg rE [0,3,4] c106L0b [(0,.isl bw ex 1<|l.map encS),(3,I i),(4,.int .i64 0)] []=some (if(l.take i).all (λy=>!Z3 y x)=true then .exit 2 else .ret,fr',[])/\
 ((l.take i).all (λy=>!Z3 y x)=true->get fr' 0=.isl bw ex 1 (l.map encS)/\get fr' 3=I i)/\((l.take i).all (λy=>!Z3 y x)=false->get fr' 2=.bool false):=by
 have hgx:=Z6 (f:=encS) hx;have hli:=Z7 hx;have L:=QT (E:=rE) (live:=[0,3,4]) (b:=c106L0b) (h:=[]) (l.take i) (λ_ y=>!Z3 y x) (λk=>[(0,.isl bw ex 1<|l.map encS),(3,I i),(4,I k)]) 2
  (λfr=>get fr 0=.isl bw ex 1 (l.map encS)/\get fr 3=I i) (λfr=>get fr 2=.bool false) (λk=>rfl)
  (λk y hy hP=>by
   obtain⟨hy',hk⟩:=HH hy;have hgy:=Z6 (f:=encS) hy';have hlt:=Zh hk;have hw:=Zx (n:=k)<|by omega
   have hP':Z3 y x=false:=by simpa using hP
   cases bw<;>refine⟨_,by simp only[go_sem,c106L0b,hgx,hgy,hlt,hw,encS,hP'];rfl,?_⟩<;>simp only[go_sem])
  (λk y hy hP=>by
   obtain⟨hy',hk⟩:=HH hy;have hgy:=Z6 (f:=encS) hy';have hlt:=Zh hk;have hP':Z3 y x=true:=by simpa using hP
   cases bw<;>refine⟨_,by simp only[go_sem,c106L0b,hgx,hgy,hlt,encS,hP'];rfl,?_⟩<;>simp only[go_sem])
  (by
   have e:(l.take i).length=i:=by rw[ZWT];omega
   rw[e];exact⟨_,by simp only[go_sem,c106L0b,ZG];rfl,by simp only[go_sem],by simp only[go_sem]⟩)
 rw[QE]at L;exact L
def ZU4(bw ex:Bool)(l:List Str)(hl:l.length<=1000000)(hs:∀x∈l,x.size<=1000000):pfn rE 106 [.isl bw ex 1<|l.map encS]=some (.bool<|Zu (Vx l) 0 l):=by
 have L:=QT (E:=rE) (live:=[0,3]) (b:=c106L1b) (h:=[]) l (Vx l) (λi=>[(0,.isl bw ex 1<|l.map encS),(3,I i)]) 0
  (λfr=>True) (λfr=>get fr 2=.bool false) (λk=>rfl)
  (λi x hx hP=>by
   have hg:=Z6 (f:=encS) hx;have hlt:=Zh<|Z7 hx;have hw:=Zx (n:=i) (by have:=Z7 hx;omega)
   obtain⟨fr',h1,h2,_⟩:=ZRU bw ex l hl i x hx;have hn:=ZOe x<|hs x<|ZWA hx;unfold Vx at hP;rw[ZWn]at hP;rw[hP.2]at h1;obtain⟨g0,g3⟩:=h2 hP.2;refine⟨_,by simp only[go_sem,c106L1b,c106L0,hg,hlt,hw,encS,hn,hP.1,h1,g0,g3,ZWm,ZWo,if_true];rfl,?_⟩
   simp only[go_sem])
  (λi x hx hP=>by
   have hg:=Z6 (f:=encS) hx;have hlt:=Zh<|Z7 hx;obtain⟨fr',h1,_,h2⟩:=ZRU bw ex l hl i x hx;have hn:=ZOe x<|hs x<|ZWA hx;unfold Vx at hP;cases c:ZZ x with
   |false=>
    refine⟨_,by simp only[go_sem,c106L1b,hg,hlt,encS,hn,c,ZWm,ZWq];rfl,?_⟩
    simp only[go_sem]
   |true=>
    rw[c,ZWp]at hP;rw[hP]at h1;refine⟨_,by simp only[go_sem,c106L1b,c106L0,hg,hlt,encS,hn,c,h1,ZWm,ZWo,ZWt,if_false];rfl,?_⟩
    simp only[go_sem,h2 hP])
  (⟨_,by simp only[go_sem,c106L1b,ZG,ZWm];rfl,trivial⟩)
 obtain⟨fr',h1,_,h2⟩:=L;have h1':Zg rE [0,3] c106L1b [(0,.isl bw ex 1<|l.map encS),(3,.int .i64 0)] []=_:=h1;rw[Z5 (f:=106) rfl rfl];cases hc:Zu (Vx l) 0 l with
 |false=>rw[hc]at h1';simp only[go_sem,c106,c106L1,h1',h2 hc,ZWt]
 |true=>rw[hc]at h1';simp only[go_sem,c106,c106L1,h1']
def ZU5(l:List Str):Zu (Vx l) 0 l=Qv l:=by
 unfold Qv;have e:∀i x,Vx l i x=(ZZ x&&!(l.take i).any (Z3 x)):=λi x=>by
  unfold Vx;rw[ZPg];congr 1;apply ZOs;intro y _;rw[ZP4]
 rw[ZP3 l 0 e,ZPr,<-ZPQ,QE<|λx=>ZZ x,ZZ0]
 congr 1;unfold Ha;rw[<-ZPf];simp
def ZRV(bw ex:Bool)(l:List Str)(hl:l.length<=1000000)(hs:∀x∈l,x.size<=1000000):pfn rE 106 [.isl bw ex 1<|l.map encS]=some (.bool<|Qv l):=by
 rw[ZU4 bw ex l hl hs,ZU5]
def ZOt(x y:Nm):Bool:=Z3 y.Lang x.Lang&&(y.Script==x.Script)
def ZOR(l:List Nm)(i:Nat)(x:Nm):Bool:=Uy x&&(l.take i).all (λy=>!ZOt x y)
def ZRW(ex:Bool)(l:List Nm)(hl:l.length<=1000000)(i:Nat)(x:Nm)(hx:l[i]?=some x):∃fr',Zg rE [0,3,4] c105L0b [(0,.isl false ex 3<|l.map Nm.enc),(3,I i),(4,.int .i64 0)] []=some (if(l.take i).all (λy=>!ZOt x y)=true then .exit 2 else .ret,fr',[])/\
 ((l.take i).all (λy=>!ZOt x y)=true->get fr' 0=.isl false ex 3 (l.map Nm.enc)/\get fr' 3=I i)/\((l.take i).all (λy=>!ZOt x y)=false->get fr' 2=.bool false):=by
 have hgx:=Z6 (f:=Nm.enc) hx;have hli:=Z7 hx;have L:=QT (E:=rE) (live:=[0,3,4]) (b:=c105L0b) (h:=[]) (l.take i) (λ_ y=>!ZOt x y) (λk=>[(0,.isl false ex 3<|l.map Nm.enc),(3,I i),(4,I k)]) 2
  (λfr=>get fr 0=.isl false ex 3 (l.map Nm.enc)/\get fr 3=I i) (λfr=>get fr 2=.bool false) (λk=>rfl)
  (λk y hy hP=>by
   obtain⟨hy',hk⟩:=HH hy;have hgy:=Z6 (f:=Nm.enc) hy';have hlt:=Zh hk;have hw:=Zx (n:=k)<|by omega
   have hP':ZOt x y=false:=by simpa using hP
   unfold ZOt at hP';cases c:Z3 y.Lang x.Lang with
   |false=>
    refine⟨_,by simp only[go_sem,c105L0b,hgx,hgy,hlt,hw,Nm.enc,c];rfl,?_⟩
    simp only[go_sem]
   |true=>
    rw[c,ZWp]at hP';refine⟨_,by simp only[go_sem,c105L0b,hgx,hgy,hlt,hw,Nm.enc,c,hP'];rfl,?_⟩
    simp only[go_sem])
  (λk y hy hP=>by
   obtain⟨hy',hk⟩:=HH hy;have hgy:=Z6 (f:=Nm.enc) hy';have hlt:=Zh hk;have hP':ZOt x y=true:=by simpa using hP
   unfold ZOt at hP';rw[ZWn]at hP';refine⟨_,by simp only[go_sem,c105L0b,hgx,hgy,hlt,Nm.enc,hP'.1,hP'.2];rfl,?_⟩
   simp only[go_sem])
  (by
   have e:(l.take i).length=i:=by rw[ZWT];omega
   rw[e];exact⟨_,by simp only[go_sem,c105L0b,ZG];rfl,by simp only[go_sem],by simp only[go_sem]⟩)
 rw[QE]at L;exact L
def ZU6(ex:Bool)(l:List Nm)(hl:l.length<=1000000)(hs:∀x∈l,x.Lang.size<=1000000/\x.Text.size<=1000000):
 pfn rE 105 [.isl false ex 3<|l.map Nm.enc]=some (.bool<|Zu (ZOR l) 0 l&&(decide ((l.length:Int)>=1)&&decide ((l.length:Int)<=8))):=by
 have L:=QT (E:=rE) (live:=[0,3]) (b:=c105L1b) (h:=[]) l (ZOR l) (λi=>[(0,.isl false ex 3<|l.map Nm.enc),(3,I i)]) 0
  (λfr=>get fr 0=.isl false ex 3 (l.map Nm.enc)) (λfr=>get fr 2=.bool false) (λk=>rfl)
  (λi x hx hP=>by
   have hg:=Z6 (f:=Nm.enc) hx;have hlt:=Zh<|Z7 hx;have hw:=Zx (n:=i) (by have:=Z7 hx;omega)
   obtain⟨fr',h1,h2,_⟩:=ZRW ex l hl i x hx;obtain⟨z1,z2⟩:=hs x<|ZWA hx;have hn:=ZOe x.Lang z1;have ht:=ZRS x.Text z2;unfold ZOR Uy ZD at hP;simp only[ZWn]at hP;obtain⟨⟨p1,⟨p2,p3⟩,p4⟩,p5⟩:=hP;have q2:decide (x.Script<0)=false:=by have:=of_decide_eq_true p2;exact decide_eq_false<|by omega
   have q3:decide (x.Script>7)=false:=by have:=of_decide_eq_true p3;exact decide_eq_false<|by omega
   rw[p5]at h1;obtain⟨g0,g3⟩:=h2 p5;refine⟨_,by simp only[go_sem,c105L1b,c105L0,hg,hlt,hw,Nm.enc,hn,ht,p1,q2,q3,p4,h1,g0,g3,ZWm,ZWo,if_true];rfl,?_⟩
   simp only[go_sem])
  (λi x hx hP=>by
   have hg:=Z6 (f:=Nm.enc) hx;have hlt:=Zh<|Z7 hx;obtain⟨fr',h1,_,h2⟩:=ZRW ex l hl i x hx;obtain⟨z1,z2⟩:=hs x<|ZWA hx;have hn:=ZOe x.Lang z1;have ht:=ZRS x.Text z2;unfold ZOR Uy ZD at hP;cases p1:ZZ x.Lang with
   |false=>
    refine⟨_,by simp only[go_sem,c105L1b,hg,hlt,Nm.enc,hn,p1,ZWm,ZWq];rfl,?_⟩
    simp only[go_sem]
   |true=>
    cases q2:decide (x.Script<0)with
    |true=>
     refine⟨_,by simp only[go_sem,c105L1b,hg,hlt,Nm.enc,hn,p1,q2,ZWm,ZWo];rfl,?_⟩
     simp only[go_sem]
    |false=>
     have p2:decide (x.Script>=0)=true:=by have:=of_decide_eq_false q2;exact decide_eq_true<|by omega
     cases q3:decide (x.Script>7)with
     |true=>
      refine⟨_,by simp only[go_sem,c105L1b,hg,hlt,Nm.enc,hn,p1,q2,q3,ZWm,ZWo];rfl,?_⟩
      simp only[go_sem]
     |false=>
      have p3:decide (x.Script<=7)=true:=by have:=of_decide_eq_false q3;exact decide_eq_true<|by omega
      cases p4:Uv x.Text with
      |false=>
       refine⟨_,by simp only[go_sem,c105L1b,hg,hlt,Nm.enc,hn,ht,p1,q2,q3,p4,ZWm,ZWo,ZWq];rfl,?_⟩
       simp only[go_sem]
      |true=>
       rw[p1,p2,p3,p4,ZWp,ZWp,ZWp,ZWp]at hP;rw[hP]at h1;refine⟨_,by simp only[go_sem,c105L1b,c105L0,hg,hlt,Nm.enc,hn,ht,p1,q2,q3,p4,h1,ZWm,ZWo,ZWt,if_false];rfl,?_⟩
       simp only[go_sem,h2 hP])
  (⟨_,by simp only[go_sem,c105L1b,ZG,ZWm];rfl,by simp only[go_sem]⟩)
 obtain⟨fr',h1,h3,h2⟩:=L;have h1':Zg rE [0,3] c105L1b [(0,.isl false ex 3<|l.map Nm.enc),(3,.int .i64 0)] []=_:=h1;rw[Z5 (f:=105) rfl rfl];cases hc:Zu (ZOR l) 0 l with
 |false=>rw[hc]at h1';simp only[go_sem,c105,c105L1,h1',h2 hc,ZWt,ZWr]
 |true=>
  rw[hc]at h1';cases c1:decide ((l.length:Int)>=1)<;>simp only[go_sem,c105,c105L1,h1',h3 hc,c1,ZWm,ZWp,ZWr]
def ZRX{α β:Type}(f:α->β)(P:Nat->β->Bool):∀(l:List α)(i:Nat),Zu P i (l.map f)=Zu (λi x=>P i<|f x) i l
 |[],_=>rfl
 |x::r,i=>by
  show(P i (f x)&&Zu P (i+1) (r.map f))=(P i (f x)&&Zu (λi x=>P i<|f x) (i+1) r)
  rw[ZRX f P r<|i+1]
def ZU7(l:List Nm):(Zu (ZOR l) 0 l&&(decide ((l.length:Int)>=1)&&decide ((l.length:Int)<=8)))=Uz l:=by
 unfold Uz ZD;have e:∀i x,ZOR l i x=(Uy x&&!((l.map Xh).take i).any (Xg<|Xh x)):=λi x=>by
  unfold ZOR;rw[ZPg,<-List.map_take,ZYw];congr 1;apply ZOs;intro y _;have:Z3 emp emp=true:=(Ky _ _).2 rfl;show(!ZOt x y) = !Xg (Xh x) (Xh y)
  unfold ZOt Xg Xh;rw[this,ZWv,ZP4 y.Lang,show(y.Script==x.Script)=(x.Script==y.Script)from Bool.beq_comm]
 rw[ZP3 l 0 e,ZPr,ZPQ,ZRX,QE Uy];generalize Zu (λi x=>!((l.map Xh).take i).any (Xg<|Xh x)) 0 l=a
 cases l.all Uy<;>cases a<;>simp
def ZU8(ex:Bool)(l:List Nm)(hl:l.length<=1000000)(hs:∀x∈l,x.Lang.size<=1000000/\x.Text.size<=1000000):pfn rE 105 [.isl false ex 3<|l.map Nm.enc]=some (.bool<|Uz l):=by
 rw[ZU6 ex l hl hs,ZU7]
def ZO6{α:Type}(eq:α->α->Bool)(b:List α)(i:Nat)(x:α):Bool:=match b[i]? with|some y=>eq x y|none=>true
def ZOl{α:Type}(eq:α->α->Bool)(a b:List α):Bool:=((a.length:Int)==(b.length:Int))&&Zu (ZO6 eq b) 0 a
def ZOS{α:Type}{eq:α->α->Bool}{a b:List α}(h:a.length=b.length){i:Nat}{x:α}(hx:a[i]?=some x):∃y,b[i]?=some y/\ZO6 eq b i x=eq x y:=by
 have:=Z7 hx;have hy:b[i]?=some (b[i]'(by omega)):=ZWu _
 exact⟨_,hy,by unfold ZO6;rw[hy]⟩
def ZPh{m n:Nat}:((m:Int) != (n:Int)) = !((m:Int)==(n:Int)):=rfl
def ZU9(e1 e2:Bool)(a b:List Nm)(ha:a.length<=1000000):pfn rE 175 [.isl false e1 3<|a.map Nm.enc,.isl false e2 3<|b.map Nm.enc]=some (.bool<|ZOl Xg a b):=by
 rw[Z5 (f:=175) rfl rfl];unfold ZOl;cases hc:((a.length:Int)==(b.length:Int))with
 |false=>simp only[go_sem,c175,hc,ZWm,ZPh,ZWq,ZWr]
 |true=>
  have hl:a.length=b.length:=by have:=eq_of_beq hc;omega
  have L:=Uf (E:=rE) (live:=[0,1,5]) (b:=c175L0b) (h:=[]) a (ZO6 Xg b) (λi=>[(0,.isl false e1 3<|a.map Nm.enc),(1,.isl false e2 3<|b.map Nm.enc),(5,I i)]) 0 (λfr=>get fr 4=.bool false) (λk=>rfl)
   (λi x hx hP=>by
    obtain⟨y,hy,e⟩:=ZOS (eq:=Xg) hl hx;rw[e]at hP;have hgx:=Z6 (f:=Nm.enc) hx;have hgy:=Z6 (f:=Nm.enc) hy;have hlt:=Zh<|Z7 hx;have hw:=Zx (n:=i) (by have:=Z7 hx;omega)
    unfold Xg at hP;refine⟨_,by simp only[go_sem,c175L0b,hgx,hgy,hlt,hw,Nm.enc,hP,ZWm,ZWo];rfl,?_⟩
    simp only[go_sem])
   (λi x hx hP=>by
    obtain⟨y,hy,e⟩:=ZOS (eq:=Xg) hl hx;rw[e]at hP;have hgx:=Z6 (f:=Nm.enc) hx;have hgy:=Z6 (f:=Nm.enc) hy;have hlt:=Zh<|Z7 hx;unfold Xg at hP;refine⟨_,by simp only[go_sem,c175L0b,hgx,hgy,hlt,Nm.enc,hP,ZWm,ZWq];rfl,?_⟩
    simp only[go_sem])
   (⟨_,by simp only[go_sem,c175L0b,ZG,ZWm];rfl⟩)
  obtain⟨fr',h1,h2⟩:=L;have h1':Zg rE [0,1,5] c175L0b [(0,.isl false e1 3<|a.map Nm.enc),(1,.isl false e2 3<|b.map Nm.enc),(5,.int .i64 0)] []=_:=h1;cases hA:Zu (ZO6 Xg b) 0 a with
  |false=>rw[hA]at h1';simp only[go_sem,c175,c175L0,hc,h1',h2 hA,ZWm,ZPh,ZWo,ZWp,ZWt]
  |true=>rw[hA]at h1';simp only[go_sem,c175,c175L0,hc,h1',ZWm,ZPh,ZWo,ZWp]
def ZUa(e1 e2:Bool)(a b:List Pt)(ha:a.length<=1000000):pfn rE 176 [.isl false e1 2<|a.map Pt.enc,.isl false e2 2<|b.map Pt.enc]=some (.bool<|ZOl QK a b):=by
 rw[Z5 (f:=176) rfl rfl];unfold ZOl;cases hc:((a.length:Int)==(b.length:Int))with
 |false=>simp only[go_sem,c176,hc,ZWm,ZPh,ZWq,ZWr]
 |true=>
  have hl:a.length=b.length:=by have:=eq_of_beq hc;omega
  have L:=Uf (E:=rE) (live:=[0,1,5]) (b:=c176L0b) (h:=[]) a (ZO6 QK b) (λi=>[(0,.isl false e1 2<|a.map Pt.enc),(1,.isl false e2 2<|b.map Pt.enc),(5,I i)]) 0 (λfr=>get fr 4=.bool false) (λk=>rfl)
   (λi x hx hP=>by
    obtain⟨y,hy,e⟩:=ZOS (eq:=QK) hl hx;rw[e]at hP;have hgx:=Z6 (f:=Pt.enc) hx;have hgy:=Z6 (f:=Pt.enc) hy;have hlt:=Zh<|Z7 hx;have hw:=Zx (n:=i) (by have:=Z7 hx;omega)
    unfold QK at hP;refine⟨_,by simp only[go_sem,c176L0b,hgx,hgy,hlt,hw,Pt.enc,hP,ZWm,ZWo];rfl,?_⟩
    simp only[go_sem])
   (λi x hx hP=>by
    obtain⟨y,hy,e⟩:=ZOS (eq:=QK) hl hx;rw[e]at hP;have hgx:=Z6 (f:=Pt.enc) hx;have hgy:=Z6 (f:=Pt.enc) hy;have hlt:=Zh<|Z7 hx;unfold QK at hP;refine⟨_,by simp only[go_sem,c176L0b,hgx,hgy,hlt,Pt.enc,hP,ZWm,ZWq];rfl,?_⟩
    simp only[go_sem])
   (⟨_,by simp only[go_sem,c176L0b,ZG,ZWm];rfl⟩)
  obtain⟨fr',h1,h2⟩:=L;have h1':Zg rE [0,1,5] c176L0b [(0,.isl false e1 2<|a.map Pt.enc),(1,.isl false e2 2<|b.map Pt.enc),(5,.int .i64 0)] []=_:=h1;cases hA:Zu (ZO6 QK b) 0 a with
  |false=>rw[hA]at h1';simp only[go_sem,c176,c176L0,hc,h1',h2 hA,ZWm,ZPh,ZWo,ZWp,ZWt]
  |true=>rw[hA]at h1';simp only[go_sem,c176,c176L0,hc,h1',ZWm,ZPh,ZWo,ZWp]
def ZOm(a b:Ent):Bool:=Z3 a.Id b.Id&&(QL a.An b.An&&QK a.bg b.bg)
def ZQn(a b:Gt):Bool:=
 (a.bq==b.bq)&&((a.Day==b.Day)&&((a.A==b.A)&&((a.B==b.B)&&((a.bv==b.bv)&&(Z3 a.Id b.Id&&(Z3 a.br b.br&&(Z3 a.Text b.Text&&(QL a.An b.An&&QK a.bg b.bg))))))))
def ZP5(a b:Gt):Bool:=ZQn a b&&((((a.Ids.l.length:Int)==(b.Ids.l.length:Int))&&((a.Lst.l.length:Int)==(b.Lst.l.length:Int)))&&(Zu (ZO6 Z3 b.Ids.l) 0 a.Ids.l&&(Zu (ZO6 ZOm b.Lst.l) 0 a.Lst.l&&(ZOl Xg a.bk.l b.bk.l&&ZOl QK a.Path.l b.Path.l))))
def ZUb(a b:Gt)(hl:a.Ids.l.length=b.Ids.l.length)(ha:a.Ids.l.length<=1000000):∃fr',Zg rE [2,3,5] c101L0b [(2,evI a),(3,evI b),(5,.int .i64 0)] []=some (if Zu (ZO6 Z3 b.Ids.l) 0 a.Ids.l=true then .exit 0 else .ret,fr',[])/\
 (Zu (ZO6 Z3 b.Ids.l) 0 a.Ids.l=true->get fr' 2=evI a/\get fr' 3=evI b)/\(Zu (ZO6 Z3 b.Ids.l) 0 a.Ids.l=false->get fr' 4=.bool false):=by
 exact QT (E:=rE) (live:=[2,3,5]) (b:=c101L0b) (h:=[]) a.Ids.l (ZO6 Z3 b.Ids.l) (λi=>[(2,evI a),(3,evI b),(5,I i)]) 0 (λfr=>get fr 2=evI a/\get fr 3=evI b) (λfr=>get fr 4=.bool false) (λk=>rfl)
  (λi x hx hP=>by
   obtain⟨y,hy,e⟩:=ZOS (eq:=Z3) hl hx;rw[e]at hP;have hgx:=Z6 (f:=encS) hx;have hgy:=Z6 (f:=encS) hy;have hlt:=Zh<|Z7 hx;have hw:=Zx (n:=i) (by have:=Z7 hx;omega)
   refine⟨_,by simp only[go_sem,c101L0b,hgx,hgy,hlt,hw,encS,hP,ZWm,ZWo];rfl,?_⟩
   simp only[go_sem])
  (λi x hx hP=>by
   obtain⟨y,hy,e⟩:=ZOS (eq:=Z3) hl hx;rw[e]at hP;have hgx:=Z6 (f:=encS) hx;have hgy:=Z6 (f:=encS) hy;have hlt:=Zh<|Z7 hx;refine⟨_,by simp only[go_sem,c101L0b,hgx,hgy,hlt,encS,hP,ZWm,ZWq];rfl,?_⟩
   simp only[go_sem])
  (⟨_,by simp only[go_sem,c101L0b,ZG,ZWm];rfl,by simp only[go_sem],by simp only[go_sem]⟩)
def ZUc(a b:Gt)(hl:a.Lst.l.length=b.Lst.l.length)(ha:a.Lst.l.length<=1000000):∃fr',Zg rE [2,3,6] c101L1b [(2,evI a),(3,evI b),(6,.int .i64 0)] []=some (if Zu (ZO6 ZOm b.Lst.l) 0 a.Lst.l=true then .exit 2 else .ret,fr',[])/\
 (Zu (ZO6 ZOm b.Lst.l) 0 a.Lst.l=true->get fr' 2=evI a/\get fr' 3=evI b)/\(Zu (ZO6 ZOm b.Lst.l) 0 a.Lst.l=false->get fr' 4=.bool false):=by
 exact QT (E:=rE) (live:=[2,3,6]) (b:=c101L1b) (h:=[]) a.Lst.l (ZO6 ZOm b.Lst.l) (λi=>[(2,evI a),(3,evI b),(6,I i)]) 2 (λfr=>get fr 2=evI a/\get fr 3=evI b) (λfr=>get fr 4=.bool false) (λk=>rfl)
  (λi x hx hP=>by
   obtain⟨y,hy,e⟩:=ZOS (eq:=ZOm) hl hx;rw[e]at hP;have hgx:=Z6 (f:=Ent.enc) hx;have hgy:=Z6 (f:=Ent.enc) hy;have hlt:=Zh<|Z7 hx;have hw:=Zx (n:=i) (by have:=Z7 hx;omega)
   unfold ZOm QL QK at hP;simp only[ZWn]at hP;obtain⟨q1,⟨q2,q3,q4,q5⟩,q6,q7⟩:=hP;refine⟨_,by simp only[go_sem,c101L1b,hgx,hgy,hlt,hw,Ent.enc,q1,q2,q3,q4,q5,q6,q7,ZWm,ZWo,ZWv];rfl,?_⟩
   simp only[go_sem])
  (λi x hx hP=>by
   obtain⟨y,hy,e⟩:=ZOS (eq:=ZOm) hl hx;rw[e]at hP;have hgx:=Z6 (f:=Ent.enc) hx;have hgy:=Z6 (f:=Ent.enc) hy;have hlt:=Zh<|Z7 hx;have hP':(Z3 x.Id y.Id&&(x.An.N==y.An.N&&(Z3 x.An.bm y.An.bm&&(x.An.Num==y.An.Num&&(x.An.Den==y.An.Den&&(x.bg.X==y.bg.X&&x.bg.Y==y.bg.Y))))))=false:=by
    rw[<-hP];unfold ZOm QL QK;simp only[ZXO]
   refine⟨_,by simp only[go_sem,c101L1b,hgx,hgy,hlt,Ent.enc,hP',ZWm,ZWq];rfl,?_⟩
   simp only[go_sem])
  (⟨_,by simp only[go_sem,c101L1b,ZG,ZWm];rfl,by simp only[go_sem],by simp only[go_sem]⟩)
def ZOf(x y:Int):(x != y) = !(x==y):=rfl
set_option maxRecDepth 4000 in
set_option maxHeartbeats 2000000 in
def ZUd(a b:Gt)(h1:a.Ids.l.length<=1000000)(h2:a.Lst.l.length<=1000000)(h3:a.bk.l.length<=1000000)(h4:a.Path.l.length<=1000000):pfn rE 101 [evA a,evA b]=some (.bool<|ZP5 a b):=by
 have hh:(a.An.N==b.An.N&&(Z3 a.An.bm b.An.bm&&(a.An.Num==b.An.Num&&a.An.Den==b.An.Den)))=QL a.An b.An:=rfl;have hp:(a.bg.X==b.bg.X&&a.bg.Y==b.bg.Y)=QK a.bg b.bg:=rfl;rw[Z5 (f:=101) rfl rfl];unfold ZP5 ZQn;cases d0:(a.bq==b.bq)with
 |false=>simp only[go_sem,c101,ZOf,hh,hp,d0,ZWq,ZWo,ZWr,ZWp,ZWw,ZWv,ZWm]
 |true=>
 cases d1:(a.Day==b.Day)with
 |false=>simp only[go_sem,c101,ZOf,hh,hp,d0,d1,ZWq,ZWo,ZWr,ZWp,ZWw,ZWv,ZWm]
 |true=>
 cases d2:(a.A==b.A)with
 |false=>simp only[go_sem,c101,ZOf,hh,hp,d0,d1,d2,ZWq,ZWo,ZWr,ZWp,ZWw,ZWv,ZWm]
 |true=>
 cases d3:(a.B==b.B)with
 |false=>simp only[go_sem,c101,ZOf,hh,hp,d0,d1,d2,d3,ZWq,ZWo,ZWr,ZWp,ZWw,ZWv,ZWm]
 |true=>
 cases d4:(a.bv==b.bv)with
 |false=>simp only[go_sem,c101,ZOf,hh,hp,d0,d1,d2,d3,d4,ZWq,ZWo,ZWr,ZWp,ZWw,ZWv,ZWm]
 |true=>
 cases d5:Z3 a.Id b.Id with
 |false=>simp only[go_sem,c101,ZOf,hh,hp,d0,d1,d2,d3,d4,d5,ZWq,ZWo,ZWr,ZWp,ZWw,ZWv,ZWm]
 |true=>
 cases d6:Z3 a.br b.br with
 |false=>simp only[go_sem,c101,ZOf,hh,hp,d0,d1,d2,d3,d4,d5,d6,ZWq,ZWo,ZWr,ZWp,ZWw,ZWv,ZWm]
 |true=>
 cases d7:Z3 a.Text b.Text with
 |false=>simp only[go_sem,c101,ZOf,hh,hp,d0,d1,d2,d3,d4,d5,d6,d7,ZWq,ZWo,ZWr,ZWp,ZWw,ZWv,ZWm]
 |true=>
 cases d8:QL a.An b.An with
 |false=>simp only[go_sem,c101,ZOf,hh,hp,d0,d1,d2,d3,d4,d5,d6,d7,d8,ZWq,ZWo,ZWr,ZWp,ZWw,ZWv,ZWm]
 |true=>
 cases d9:QK a.bg b.bg with
 |false=>simp only[go_sem,c101,ZOf,hh,hp,d0,d1,d2,d3,d4,d5,d6,d7,d8,d9,ZWq,ZWo,ZWr,ZWp,ZWw,ZWv,ZWm]
 |true=>
 cases d10:((a.Ids.l.length:Int)==(b.Ids.l.length:Int))with
 |false=>simp only[go_sem,c101,ZOf,hh,hp,d0,d1,d2,d3,d4,d5,d6,d7,d8,d9,d10,ZWq,ZWo,ZWr,ZWp,ZWw,ZWv,ZWm]
 |true=>
 cases d11:((a.Lst.l.length:Int)==(b.Lst.l.length:Int))with
 |false=>simp only[go_sem,c101,ZOf,hh,hp,d0,d1,d2,d3,d4,d5,d6,d7,d8,d9,d10,d11,ZWq,ZWo,ZWr,ZWp,ZWw,ZWv,ZWm]
 |true=>
 have l0:a.Ids.l.length=b.Ids.l.length:=by have:=eq_of_beq d10;omega
 have l1:a.Lst.l.length=b.Lst.l.length:=by have:=eq_of_beq d11;omega
 obtain⟨f0,L0,L1,L2⟩:=ZUb a b l0 h1;cases g0:Zu (ZO6 Z3 b.Ids.l) 0 a.Ids.l with
 |false=>rw[g0]at L0;simp only[go_sem,c101,c101L0,ZOf,hh,hp,d0,d1,d2,d3,d4,d5,d6,d7,d8,d9,d10,d11,ZWq,ZWo,ZWr,ZWp,ZWw,ZWv,ZWm,L0,L2 g0,ZWt]
 |true=>
 rw[g0]at L0;obtain⟨e2,e3⟩:=L1 g0;obtain⟨f1,ZOa,M1,M2⟩:=ZUc a b l1 h2;cases g1:Zu (ZO6 ZOm b.Lst.l) 0 a.Lst.l with
 |false=>rw[g1]at ZOa;simp only[go_sem,c101,c101L0,c101L1,ZOf,hh,hp,d0,d1,d2,d3,d4,d5,d6,d7,d8,d9,d10,d11,ZWq,ZWo,ZWr,ZWp,ZWw,ZWv,ZWm,L0,e2,e3,ZOa,M2 g1,ZWt]
 |true=>
 rw[g1]at ZOa;obtain⟨k2,k3⟩:=M1 g1;have hN:=ZU9 a.bk.ex b.bk.ex a.bk.l b.bk.l h3;have hP:=ZUa a.Path.ex b.Path.ex a.Path.l b.Path.l h4;cases g2:ZOl Xg a.bk.l b.bk.l<;>rw[g2]at hN<;>simp only[go_sem,c101,c101L0,c101L1,ZOf,hh,hp,d0,d1,d2,d3,d4,d5,d6,d7,d8,d9,d10,d11,ZWq,ZWo,ZWr,ZWp,ZWw,ZWv,ZWm,L0,e2,e3,ZOa,k2,k3,hN,hP]
def ZO2(e:Gt):Gt:=
 {bq:=e.bq,Day:=e.Day,
  A:=bif kIn e [1,13,14]then e.A else 0,
  B:=bif kIn e [13,14]then e.B else 0,
  bv:=bif kIn e [15]then e.bv else 0,
  Id:=bif kIn e [13,14]then emp else e.Id,
  br:=bif kIn e [4,6,7]then e.br else emp,
  Text:=bif kIn e [6,7,15]then e.Text else emp,
  Ids:=bif kIn e [10]then e.Ids else⟨false,[]⟩,
  bk:=bif kIn e [3]then e.bk else⟨false,[]⟩,
  An:=bif kIn e [6,10]then e.An else⟨0,emp,0,0⟩,
  bg:=bif kIn e [6,10]then e.bg else⟨0,0⟩,
  Path:=bif kIn e [1,2,5]then e.Path else⟨false,[]⟩,
  Lst:=bif kIn e [8,9]then e.Lst else⟨false,[]⟩}
def ZUe(e:Gt)(hk:e.bq=1):pfn rE 102 [evA e]=some (evA<|ZO2 e):=by
 have q1:(e.bq==1)=true:=by rw[hk];rfl
 have q2:(e.bq==2)=false:=by rw[hk];rfl
 have q5:(e.bq==5)=false:=by rw[hk];rfl
 have q3:(e.bq==3)=false:=by rw[hk];rfl
 have q4:(e.bq==4)=false:=by rw[hk];rfl
 have q6:(e.bq==6)=false:=by rw[hk];rfl
 have q7:(e.bq==7)=false:=by rw[hk];rfl
 have q8:(e.bq==8)=false:=by rw[hk];rfl
 have q9:(e.bq==9)=false:=by rw[hk];rfl
 have q10:(e.bq==10)=false:=by rw[hk];rfl
 have q13:(e.bq==13)=false:=by rw[hk];rfl
 have q14:(e.bq==14)=false:=by rw[hk];rfl
 have q15:(e.bq==15)=false:=by rw[hk];rfl
 have b0:kIn e [1,13,14]=true:=by unfold kIn;rw[hk];rfl
 have b1:kIn e [13,14]=false:=by unfold kIn;rw[hk];rfl
 have b2:kIn e [15]=false:=by unfold kIn;rw[hk];rfl
 have b3:kIn e [4,6,7]=false:=by unfold kIn;rw[hk];rfl
 have b4:kIn e [6,7,15]=false:=by unfold kIn;rw[hk];rfl
 have b5:kIn e [10]=false:=by unfold kIn;rw[hk];rfl
 have b6:kIn e [3]=false:=by unfold kIn;rw[hk];rfl
 have b7:kIn e [6,10]=false:=by unfold kIn;rw[hk];rfl
 have b8:kIn e [1,2,5]=true:=by unfold kIn;rw[hk];rfl
 have b9:kIn e [8,9]=false:=by unfold kIn;rw[hk];rfl
 rw[Z5 (f:=102) rfl rfl];unfold ZO2;simp only[go_sem,c102,q1,q2,q5,q3,q4,q6,q7,q8,q9,q10,q13,q14,q15,b0,b1,b2,b3,b4,b5,b6,b7,b8,b9]
 try rfl
def ZUf(e:Gt)(hk:e.bq=2):pfn rE 102 [evA e]=some (evA<|ZO2 e):=by
 have q1:(e.bq==1)=false:=by rw[hk];rfl
 have q2:(e.bq==2)=true:=by rw[hk];rfl
 have q5:(e.bq==5)=false:=by rw[hk];rfl
 have q3:(e.bq==3)=false:=by rw[hk];rfl
 have q4:(e.bq==4)=false:=by rw[hk];rfl
 have q6:(e.bq==6)=false:=by rw[hk];rfl
 have q7:(e.bq==7)=false:=by rw[hk];rfl
 have q8:(e.bq==8)=false:=by rw[hk];rfl
 have q9:(e.bq==9)=false:=by rw[hk];rfl
 have q10:(e.bq==10)=false:=by rw[hk];rfl
 have q13:(e.bq==13)=false:=by rw[hk];rfl
 have q14:(e.bq==14)=false:=by rw[hk];rfl
 have q15:(e.bq==15)=false:=by rw[hk];rfl
 have b0:kIn e [1,13,14]=false:=by unfold kIn;rw[hk];rfl
 have b1:kIn e [13,14]=false:=by unfold kIn;rw[hk];rfl
 have b2:kIn e [15]=false:=by unfold kIn;rw[hk];rfl
 have b3:kIn e [4,6,7]=false:=by unfold kIn;rw[hk];rfl
 have b4:kIn e [6,7,15]=false:=by unfold kIn;rw[hk];rfl
 have b5:kIn e [10]=false:=by unfold kIn;rw[hk];rfl
 have b6:kIn e [3]=false:=by unfold kIn;rw[hk];rfl
 have b7:kIn e [6,10]=false:=by unfold kIn;rw[hk];rfl
 have b8:kIn e [1,2,5]=true:=by unfold kIn;rw[hk];rfl
 have b9:kIn e [8,9]=false:=by unfold kIn;rw[hk];rfl
 rw[Z5 (f:=102) rfl rfl];unfold ZO2;simp only[go_sem,c102,q1,q2,q5,q3,q4,q6,q7,q8,q9,q10,q13,q14,q15,b0,b1,b2,b3,b4,b5,b6,b7,b8,b9]
 try rfl
def ZUg(e:Gt)(hk:e.bq=3):pfn rE 102 [evA e]=some (evA<|ZO2 e):=by
 have q1:(e.bq==1)=false:=by rw[hk];rfl
 have q2:(e.bq==2)=false:=by rw[hk];rfl
 have q5:(e.bq==5)=false:=by rw[hk];rfl
 have q3:(e.bq==3)=true:=by rw[hk];rfl
 have q4:(e.bq==4)=false:=by rw[hk];rfl
 have q6:(e.bq==6)=false:=by rw[hk];rfl
 have q7:(e.bq==7)=false:=by rw[hk];rfl
 have q8:(e.bq==8)=false:=by rw[hk];rfl
 have q9:(e.bq==9)=false:=by rw[hk];rfl
 have q10:(e.bq==10)=false:=by rw[hk];rfl
 have q13:(e.bq==13)=false:=by rw[hk];rfl
 have q14:(e.bq==14)=false:=by rw[hk];rfl
 have q15:(e.bq==15)=false:=by rw[hk];rfl
 have b0:kIn e [1,13,14]=false:=by unfold kIn;rw[hk];rfl
 have b1:kIn e [13,14]=false:=by unfold kIn;rw[hk];rfl
 have b2:kIn e [15]=false:=by unfold kIn;rw[hk];rfl
 have b3:kIn e [4,6,7]=false:=by unfold kIn;rw[hk];rfl
 have b4:kIn e [6,7,15]=false:=by unfold kIn;rw[hk];rfl
 have b5:kIn e [10]=false:=by unfold kIn;rw[hk];rfl
 have b6:kIn e [3]=true:=by unfold kIn;rw[hk];rfl
 have b7:kIn e [6,10]=false:=by unfold kIn;rw[hk];rfl
 have b8:kIn e [1,2,5]=false:=by unfold kIn;rw[hk];rfl
 have b9:kIn e [8,9]=false:=by unfold kIn;rw[hk];rfl
 rw[Z5 (f:=102) rfl rfl];unfold ZO2;simp only[go_sem,c102,q1,q2,q5,q3,q4,q6,q7,q8,q9,q10,q13,q14,q15,b0,b1,b2,b3,b4,b5,b6,b7,b8,b9]
 try rfl
def ZUh(e:Gt)(hk:e.bq=4):pfn rE 102 [evA e]=some (evA<|ZO2 e):=by
 have q1:(e.bq==1)=false:=by rw[hk];rfl
 have q2:(e.bq==2)=false:=by rw[hk];rfl
 have q5:(e.bq==5)=false:=by rw[hk];rfl
 have q3:(e.bq==3)=false:=by rw[hk];rfl
 have q4:(e.bq==4)=true:=by rw[hk];rfl
 have q6:(e.bq==6)=false:=by rw[hk];rfl
 have q7:(e.bq==7)=false:=by rw[hk];rfl
 have q8:(e.bq==8)=false:=by rw[hk];rfl
 have q9:(e.bq==9)=false:=by rw[hk];rfl
 have q10:(e.bq==10)=false:=by rw[hk];rfl
 have q13:(e.bq==13)=false:=by rw[hk];rfl
 have q14:(e.bq==14)=false:=by rw[hk];rfl
 have q15:(e.bq==15)=false:=by rw[hk];rfl
 have b0:kIn e [1,13,14]=false:=by unfold kIn;rw[hk];rfl
 have b1:kIn e [13,14]=false:=by unfold kIn;rw[hk];rfl
 have b2:kIn e [15]=false:=by unfold kIn;rw[hk];rfl
 have b3:kIn e [4,6,7]=true:=by unfold kIn;rw[hk];rfl
 have b4:kIn e [6,7,15]=false:=by unfold kIn;rw[hk];rfl
 have b5:kIn e [10]=false:=by unfold kIn;rw[hk];rfl
 have b6:kIn e [3]=false:=by unfold kIn;rw[hk];rfl
 have b7:kIn e [6,10]=false:=by unfold kIn;rw[hk];rfl
 have b8:kIn e [1,2,5]=false:=by unfold kIn;rw[hk];rfl
 have b9:kIn e [8,9]=false:=by unfold kIn;rw[hk];rfl
 rw[Z5 (f:=102) rfl rfl];unfold ZO2;simp only[go_sem,c102,q1,q2,q5,q3,q4,q6,q7,q8,q9,q10,q13,q14,q15,b0,b1,b2,b3,b4,b5,b6,b7,b8,b9]
 try rfl
def ZUi(e:Gt)(hk:e.bq=5):pfn rE 102 [evA e]=some (evA<|ZO2 e):=by
 have q1:(e.bq==1)=false:=by rw[hk];rfl
 have q2:(e.bq==2)=false:=by rw[hk];rfl
 have q5:(e.bq==5)=true:=by rw[hk];rfl
 have q3:(e.bq==3)=false:=by rw[hk];rfl
 have q4:(e.bq==4)=false:=by rw[hk];rfl
 have q6:(e.bq==6)=false:=by rw[hk];rfl
 have q7:(e.bq==7)=false:=by rw[hk];rfl
 have q8:(e.bq==8)=false:=by rw[hk];rfl
 have q9:(e.bq==9)=false:=by rw[hk];rfl
 have q10:(e.bq==10)=false:=by rw[hk];rfl
 have q13:(e.bq==13)=false:=by rw[hk];rfl
 have q14:(e.bq==14)=false:=by rw[hk];rfl
 have q15:(e.bq==15)=false:=by rw[hk];rfl
 have b0:kIn e [1,13,14]=false:=by unfold kIn;rw[hk];rfl
 have b1:kIn e [13,14]=false:=by unfold kIn;rw[hk];rfl
 have b2:kIn e [15]=false:=by unfold kIn;rw[hk];rfl
 have b3:kIn e [4,6,7]=false:=by unfold kIn;rw[hk];rfl
 have b4:kIn e [6,7,15]=false:=by unfold kIn;rw[hk];rfl
 have b5:kIn e [10]=false:=by unfold kIn;rw[hk];rfl
 have b6:kIn e [3]=false:=by unfold kIn;rw[hk];rfl
 have b7:kIn e [6,10]=false:=by unfold kIn;rw[hk];rfl
 have b8:kIn e [1,2,5]=true:=by unfold kIn;rw[hk];rfl
 have b9:kIn e [8,9]=false:=by unfold kIn;rw[hk];rfl
 rw[Z5 (f:=102) rfl rfl];unfold ZO2;simp only[go_sem,c102,q1,q2,q5,q3,q4,q6,q7,q8,q9,q10,q13,q14,q15,b0,b1,b2,b3,b4,b5,b6,b7,b8,b9]
 try rfl
def ZUj(e:Gt)(hk:e.bq=6):pfn rE 102 [evA e]=some (evA<|ZO2 e):=by
 have q1:(e.bq==1)=false:=by rw[hk];rfl
 have q2:(e.bq==2)=false:=by rw[hk];rfl
 have q5:(e.bq==5)=false:=by rw[hk];rfl
 have q3:(e.bq==3)=false:=by rw[hk];rfl
 have q4:(e.bq==4)=false:=by rw[hk];rfl
 have q6:(e.bq==6)=true:=by rw[hk];rfl
 have q7:(e.bq==7)=false:=by rw[hk];rfl
 have q8:(e.bq==8)=false:=by rw[hk];rfl
 have q9:(e.bq==9)=false:=by rw[hk];rfl
 have q10:(e.bq==10)=false:=by rw[hk];rfl
 have q13:(e.bq==13)=false:=by rw[hk];rfl
 have q14:(e.bq==14)=false:=by rw[hk];rfl
 have q15:(e.bq==15)=false:=by rw[hk];rfl
 have b0:kIn e [1,13,14]=false:=by unfold kIn;rw[hk];rfl
 have b1:kIn e [13,14]=false:=by unfold kIn;rw[hk];rfl
 have b2:kIn e [15]=false:=by unfold kIn;rw[hk];rfl
 have b3:kIn e [4,6,7]=true:=by unfold kIn;rw[hk];rfl
 have b4:kIn e [6,7,15]=true:=by unfold kIn;rw[hk];rfl
 have b5:kIn e [10]=false:=by unfold kIn;rw[hk];rfl
 have b6:kIn e [3]=false:=by unfold kIn;rw[hk];rfl
 have b7:kIn e [6,10]=true:=by unfold kIn;rw[hk];rfl
 have b8:kIn e [1,2,5]=false:=by unfold kIn;rw[hk];rfl
 have b9:kIn e [8,9]=false:=by unfold kIn;rw[hk];rfl
 rw[Z5 (f:=102) rfl rfl];unfold ZO2;simp only[go_sem,c102,q1,q2,q5,q3,q4,q6,q7,q8,q9,q10,q13,q14,q15,b0,b1,b2,b3,b4,b5,b6,b7,b8,b9]
 try rfl
def ZUk(e:Gt)(hk:e.bq=7):pfn rE 102 [evA e]=some (evA<|ZO2 e):=by
 have q1:(e.bq==1)=false:=by rw[hk];rfl
 have q2:(e.bq==2)=false:=by rw[hk];rfl
 have q5:(e.bq==5)=false:=by rw[hk];rfl
 have q3:(e.bq==3)=false:=by rw[hk];rfl
 have q4:(e.bq==4)=false:=by rw[hk];rfl
 have q6:(e.bq==6)=false:=by rw[hk];rfl
 have q7:(e.bq==7)=true:=by rw[hk];rfl
 have q8:(e.bq==8)=false:=by rw[hk];rfl
 have q9:(e.bq==9)=false:=by rw[hk];rfl
 have q10:(e.bq==10)=false:=by rw[hk];rfl
 have q13:(e.bq==13)=false:=by rw[hk];rfl
 have q14:(e.bq==14)=false:=by rw[hk];rfl
 have q15:(e.bq==15)=false:=by rw[hk];rfl
 have b0:kIn e [1,13,14]=false:=by unfold kIn;rw[hk];rfl
 have b1:kIn e [13,14]=false:=by unfold kIn;rw[hk];rfl
 have b2:kIn e [15]=false:=by unfold kIn;rw[hk];rfl
 have b3:kIn e [4,6,7]=true:=by unfold kIn;rw[hk];rfl
 have b4:kIn e [6,7,15]=true:=by unfold kIn;rw[hk];rfl
 have b5:kIn e [10]=false:=by unfold kIn;rw[hk];rfl
 have b6:kIn e [3]=false:=by unfold kIn;rw[hk];rfl
 have b7:kIn e [6,10]=false:=by unfold kIn;rw[hk];rfl
 have b8:kIn e [1,2,5]=false:=by unfold kIn;rw[hk];rfl
 have b9:kIn e [8,9]=false:=by unfold kIn;rw[hk];rfl
 rw[Z5 (f:=102) rfl rfl];unfold ZO2;simp only[go_sem,c102,q1,q2,q5,q3,q4,q6,q7,q8,q9,q10,q13,q14,q15,b0,b1,b2,b3,b4,b5,b6,b7,b8,b9]
 try rfl
def ZUl(e:Gt)(hk:e.bq=8):pfn rE 102 [evA e]=some (evA<|ZO2 e):=by
 have q1:(e.bq==1)=false:=by rw[hk];rfl
 have q2:(e.bq==2)=false:=by rw[hk];rfl
 have q5:(e.bq==5)=false:=by rw[hk];rfl
 have q3:(e.bq==3)=false:=by rw[hk];rfl
 have q4:(e.bq==4)=false:=by rw[hk];rfl
 have q6:(e.bq==6)=false:=by rw[hk];rfl
 have q7:(e.bq==7)=false:=by rw[hk];rfl
 have q8:(e.bq==8)=true:=by rw[hk];rfl
 have q9:(e.bq==9)=false:=by rw[hk];rfl
 have q10:(e.bq==10)=false:=by rw[hk];rfl
 have q13:(e.bq==13)=false:=by rw[hk];rfl
 have q14:(e.bq==14)=false:=by rw[hk];rfl
 have q15:(e.bq==15)=false:=by rw[hk];rfl
 have b0:kIn e [1,13,14]=false:=by unfold kIn;rw[hk];rfl
 have b1:kIn e [13,14]=false:=by unfold kIn;rw[hk];rfl
 have b2:kIn e [15]=false:=by unfold kIn;rw[hk];rfl
 have b3:kIn e [4,6,7]=false:=by unfold kIn;rw[hk];rfl
 have b4:kIn e [6,7,15]=false:=by unfold kIn;rw[hk];rfl
 have b5:kIn e [10]=false:=by unfold kIn;rw[hk];rfl
 have b6:kIn e [3]=false:=by unfold kIn;rw[hk];rfl
 have b7:kIn e [6,10]=false:=by unfold kIn;rw[hk];rfl
 have b8:kIn e [1,2,5]=false:=by unfold kIn;rw[hk];rfl
 have b9:kIn e [8,9]=true:=by unfold kIn;rw[hk];rfl
 rw[Z5 (f:=102) rfl rfl];unfold ZO2;simp only[go_sem,c102,q1,q2,q5,q3,q4,q6,q7,q8,q9,q10,q13,q14,q15,b0,b1,b2,b3,b4,b5,b6,b7,b8,b9]
 try rfl
def ZUm(e:Gt)(hk:e.bq=9):pfn rE 102 [evA e]=some (evA<|ZO2 e):=by
 have q1:(e.bq==1)=false:=by rw[hk];rfl
 have q2:(e.bq==2)=false:=by rw[hk];rfl
 have q5:(e.bq==5)=false:=by rw[hk];rfl
 have q3:(e.bq==3)=false:=by rw[hk];rfl
 have q4:(e.bq==4)=false:=by rw[hk];rfl
 have q6:(e.bq==6)=false:=by rw[hk];rfl
 have q7:(e.bq==7)=false:=by rw[hk];rfl
 have q8:(e.bq==8)=false:=by rw[hk];rfl
 have q9:(e.bq==9)=true:=by rw[hk];rfl
 have q10:(e.bq==10)=false:=by rw[hk];rfl
 have q13:(e.bq==13)=false:=by rw[hk];rfl
 have q14:(e.bq==14)=false:=by rw[hk];rfl
 have q15:(e.bq==15)=false:=by rw[hk];rfl
 have b0:kIn e [1,13,14]=false:=by unfold kIn;rw[hk];rfl
 have b1:kIn e [13,14]=false:=by unfold kIn;rw[hk];rfl
 have b2:kIn e [15]=false:=by unfold kIn;rw[hk];rfl
 have b3:kIn e [4,6,7]=false:=by unfold kIn;rw[hk];rfl
 have b4:kIn e [6,7,15]=false:=by unfold kIn;rw[hk];rfl
 have b5:kIn e [10]=false:=by unfold kIn;rw[hk];rfl
 have b6:kIn e [3]=false:=by unfold kIn;rw[hk];rfl
 have b7:kIn e [6,10]=false:=by unfold kIn;rw[hk];rfl
 have b8:kIn e [1,2,5]=false:=by unfold kIn;rw[hk];rfl
 have b9:kIn e [8,9]=true:=by unfold kIn;rw[hk];rfl
 rw[Z5 (f:=102) rfl rfl];unfold ZO2;simp only[go_sem,c102,q1,q2,q5,q3,q4,q6,q7,q8,q9,q10,q13,q14,q15,b0,b1,b2,b3,b4,b5,b6,b7,b8,b9]
 try rfl
def ZUn(e:Gt)(hk:e.bq=10):pfn rE 102 [evA e]=some (evA<|ZO2 e):=by
 have q1:(e.bq==1)=false:=by rw[hk];rfl
 have q2:(e.bq==2)=false:=by rw[hk];rfl
 have q5:(e.bq==5)=false:=by rw[hk];rfl
 have q3:(e.bq==3)=false:=by rw[hk];rfl
 have q4:(e.bq==4)=false:=by rw[hk];rfl
 have q6:(e.bq==6)=false:=by rw[hk];rfl
 have q7:(e.bq==7)=false:=by rw[hk];rfl
 have q8:(e.bq==8)=false:=by rw[hk];rfl
 have q9:(e.bq==9)=false:=by rw[hk];rfl
 have q10:(e.bq==10)=true:=by rw[hk];rfl
 have q13:(e.bq==13)=false:=by rw[hk];rfl
 have q14:(e.bq==14)=false:=by rw[hk];rfl
 have q15:(e.bq==15)=false:=by rw[hk];rfl
 have b0:kIn e [1,13,14]=false:=by unfold kIn;rw[hk];rfl
 have b1:kIn e [13,14]=false:=by unfold kIn;rw[hk];rfl
 have b2:kIn e [15]=false:=by unfold kIn;rw[hk];rfl
 have b3:kIn e [4,6,7]=false:=by unfold kIn;rw[hk];rfl
 have b4:kIn e [6,7,15]=false:=by unfold kIn;rw[hk];rfl
 have b5:kIn e [10]=true:=by unfold kIn;rw[hk];rfl
 have b6:kIn e [3]=false:=by unfold kIn;rw[hk];rfl
 have b7:kIn e [6,10]=true:=by unfold kIn;rw[hk];rfl
 have b8:kIn e [1,2,5]=false:=by unfold kIn;rw[hk];rfl
 have b9:kIn e [8,9]=false:=by unfold kIn;rw[hk];rfl
 rw[Z5 (f:=102) rfl rfl];unfold ZO2;simp only[go_sem,c102,q1,q2,q5,q3,q4,q6,q7,q8,q9,q10,q13,q14,q15,b0,b1,b2,b3,b4,b5,b6,b7,b8,b9]
 try rfl
def ZUo(e:Gt)(hk:e.bq=11):pfn rE 102 [evA e]=some (evA<|ZO2 e):=by
 have q1:(e.bq==1)=false:=by rw[hk];rfl
 have q2:(e.bq==2)=false:=by rw[hk];rfl
 have q5:(e.bq==5)=false:=by rw[hk];rfl
 have q3:(e.bq==3)=false:=by rw[hk];rfl
 have q4:(e.bq==4)=false:=by rw[hk];rfl
 have q6:(e.bq==6)=false:=by rw[hk];rfl
 have q7:(e.bq==7)=false:=by rw[hk];rfl
 have q8:(e.bq==8)=false:=by rw[hk];rfl
 have q9:(e.bq==9)=false:=by rw[hk];rfl
 have q10:(e.bq==10)=false:=by rw[hk];rfl
 have q13:(e.bq==13)=false:=by rw[hk];rfl
 have q14:(e.bq==14)=false:=by rw[hk];rfl
 have q15:(e.bq==15)=false:=by rw[hk];rfl
 have b0:kIn e [1,13,14]=false:=by unfold kIn;rw[hk];rfl
 have b1:kIn e [13,14]=false:=by unfold kIn;rw[hk];rfl
 have b2:kIn e [15]=false:=by unfold kIn;rw[hk];rfl
 have b3:kIn e [4,6,7]=false:=by unfold kIn;rw[hk];rfl
 have b4:kIn e [6,7,15]=false:=by unfold kIn;rw[hk];rfl
 have b5:kIn e [10]=false:=by unfold kIn;rw[hk];rfl
 have b6:kIn e [3]=false:=by unfold kIn;rw[hk];rfl
 have b7:kIn e [6,10]=false:=by unfold kIn;rw[hk];rfl
 have b8:kIn e [1,2,5]=false:=by unfold kIn;rw[hk];rfl
 have b9:kIn e [8,9]=false:=by unfold kIn;rw[hk];rfl
 rw[Z5 (f:=102) rfl rfl];unfold ZO2;simp only[go_sem,c102,q1,q2,q5,q3,q4,q6,q7,q8,q9,q10,q13,q14,q15,b0,b1,b2,b3,b4,b5,b6,b7,b8,b9]
 try rfl
def ZUp(e:Gt)(hk:e.bq=12):pfn rE 102 [evA e]=some (evA<|ZO2 e):=by
 have q1:(e.bq==1)=false:=by rw[hk];rfl
 have q2:(e.bq==2)=false:=by rw[hk];rfl
 have q5:(e.bq==5)=false:=by rw[hk];rfl
 have q3:(e.bq==3)=false:=by rw[hk];rfl
 have q4:(e.bq==4)=false:=by rw[hk];rfl
 have q6:(e.bq==6)=false:=by rw[hk];rfl
 have q7:(e.bq==7)=false:=by rw[hk];rfl
 have q8:(e.bq==8)=false:=by rw[hk];rfl
 have q9:(e.bq==9)=false:=by rw[hk];rfl
 have q10:(e.bq==10)=false:=by rw[hk];rfl
 have q13:(e.bq==13)=false:=by rw[hk];rfl
 have q14:(e.bq==14)=false:=by rw[hk];rfl
 have q15:(e.bq==15)=false:=by rw[hk];rfl
 have b0:kIn e [1,13,14]=false:=by unfold kIn;rw[hk];rfl
 have b1:kIn e [13,14]=false:=by unfold kIn;rw[hk];rfl
 have b2:kIn e [15]=false:=by unfold kIn;rw[hk];rfl
 have b3:kIn e [4,6,7]=false:=by unfold kIn;rw[hk];rfl
 have b4:kIn e [6,7,15]=false:=by unfold kIn;rw[hk];rfl
 have b5:kIn e [10]=false:=by unfold kIn;rw[hk];rfl
 have b6:kIn e [3]=false:=by unfold kIn;rw[hk];rfl
 have b7:kIn e [6,10]=false:=by unfold kIn;rw[hk];rfl
 have b8:kIn e [1,2,5]=false:=by unfold kIn;rw[hk];rfl
 have b9:kIn e [8,9]=false:=by unfold kIn;rw[hk];rfl
 rw[Z5 (f:=102) rfl rfl];unfold ZO2;simp only[go_sem,c102,q1,q2,q5,q3,q4,q6,q7,q8,q9,q10,q13,q14,q15,b0,b1,b2,b3,b4,b5,b6,b7,b8,b9]
 try rfl
def ZUq(e:Gt)(hk:e.bq=13):pfn rE 102 [evA e]=some (evA<|ZO2 e):=by
 have q1:(e.bq==1)=false:=by rw[hk];rfl
 have q2:(e.bq==2)=false:=by rw[hk];rfl
 have q5:(e.bq==5)=false:=by rw[hk];rfl
 have q3:(e.bq==3)=false:=by rw[hk];rfl
 have q4:(e.bq==4)=false:=by rw[hk];rfl
 have q6:(e.bq==6)=false:=by rw[hk];rfl
 have q7:(e.bq==7)=false:=by rw[hk];rfl
 have q8:(e.bq==8)=false:=by rw[hk];rfl
 have q9:(e.bq==9)=false:=by rw[hk];rfl
 have q10:(e.bq==10)=false:=by rw[hk];rfl
 have q13:(e.bq==13)=true:=by rw[hk];rfl
 have q14:(e.bq==14)=false:=by rw[hk];rfl
 have q15:(e.bq==15)=false:=by rw[hk];rfl
 have b0:kIn e [1,13,14]=true:=by unfold kIn;rw[hk];rfl
 have b1:kIn e [13,14]=true:=by unfold kIn;rw[hk];rfl
 have b2:kIn e [15]=false:=by unfold kIn;rw[hk];rfl
 have b3:kIn e [4,6,7]=false:=by unfold kIn;rw[hk];rfl
 have b4:kIn e [6,7,15]=false:=by unfold kIn;rw[hk];rfl
 have b5:kIn e [10]=false:=by unfold kIn;rw[hk];rfl
 have b6:kIn e [3]=false:=by unfold kIn;rw[hk];rfl
 have b7:kIn e [6,10]=false:=by unfold kIn;rw[hk];rfl
 have b8:kIn e [1,2,5]=false:=by unfold kIn;rw[hk];rfl
 have b9:kIn e [8,9]=false:=by unfold kIn;rw[hk];rfl
 rw[Z5 (f:=102) rfl rfl];unfold ZO2;simp only[go_sem,c102,q1,q2,q5,q3,q4,q6,q7,q8,q9,q10,q13,q14,q15,b0,b1,b2,b3,b4,b5,b6,b7,b8,b9]
 try rfl
def ZUr(e:Gt)(hk:e.bq=14):pfn rE 102 [evA e]=some (evA<|ZO2 e):=by
 have q1:(e.bq==1)=false:=by rw[hk];rfl
 have q2:(e.bq==2)=false:=by rw[hk];rfl
 have q5:(e.bq==5)=false:=by rw[hk];rfl
 have q3:(e.bq==3)=false:=by rw[hk];rfl
 have q4:(e.bq==4)=false:=by rw[hk];rfl
 have q6:(e.bq==6)=false:=by rw[hk];rfl
 have q7:(e.bq==7)=false:=by rw[hk];rfl
 have q8:(e.bq==8)=false:=by rw[hk];rfl
 have q9:(e.bq==9)=false:=by rw[hk];rfl
 have q10:(e.bq==10)=false:=by rw[hk];rfl
 have q13:(e.bq==13)=false:=by rw[hk];rfl
 have q14:(e.bq==14)=true:=by rw[hk];rfl
 have q15:(e.bq==15)=false:=by rw[hk];rfl
 have b0:kIn e [1,13,14]=true:=by unfold kIn;rw[hk];rfl
 have b1:kIn e [13,14]=true:=by unfold kIn;rw[hk];rfl
 have b2:kIn e [15]=false:=by unfold kIn;rw[hk];rfl
 have b3:kIn e [4,6,7]=false:=by unfold kIn;rw[hk];rfl
 have b4:kIn e [6,7,15]=false:=by unfold kIn;rw[hk];rfl
 have b5:kIn e [10]=false:=by unfold kIn;rw[hk];rfl
 have b6:kIn e [3]=false:=by unfold kIn;rw[hk];rfl
 have b7:kIn e [6,10]=false:=by unfold kIn;rw[hk];rfl
 have b8:kIn e [1,2,5]=false:=by unfold kIn;rw[hk];rfl
 have b9:kIn e [8,9]=false:=by unfold kIn;rw[hk];rfl
 rw[Z5 (f:=102) rfl rfl];unfold ZO2;simp only[go_sem,c102,q1,q2,q5,q3,q4,q6,q7,q8,q9,q10,q13,q14,q15,b0,b1,b2,b3,b4,b5,b6,b7,b8,b9]
 try rfl
def ZUs(e:Gt)(hk:e.bq=15):pfn rE 102 [evA e]=some (evA<|ZO2 e):=by
 have q1:(e.bq==1)=false:=by rw[hk];rfl
 have q2:(e.bq==2)=false:=by rw[hk];rfl
 have q5:(e.bq==5)=false:=by rw[hk];rfl
 have q3:(e.bq==3)=false:=by rw[hk];rfl
 have q4:(e.bq==4)=false:=by rw[hk];rfl
 have q6:(e.bq==6)=false:=by rw[hk];rfl
 have q7:(e.bq==7)=false:=by rw[hk];rfl
 have q8:(e.bq==8)=false:=by rw[hk];rfl
 have q9:(e.bq==9)=false:=by rw[hk];rfl
 have q10:(e.bq==10)=false:=by rw[hk];rfl
 have q13:(e.bq==13)=false:=by rw[hk];rfl
 have q14:(e.bq==14)=false:=by rw[hk];rfl
 have q15:(e.bq==15)=true:=by rw[hk];rfl
 have b0:kIn e [1,13,14]=false:=by unfold kIn;rw[hk];rfl
 have b1:kIn e [13,14]=false:=by unfold kIn;rw[hk];rfl
 have b2:kIn e [15]=true:=by unfold kIn;rw[hk];rfl
 have b3:kIn e [4,6,7]=false:=by unfold kIn;rw[hk];rfl
 have b4:kIn e [6,7,15]=true:=by unfold kIn;rw[hk];rfl
 have b5:kIn e [10]=false:=by unfold kIn;rw[hk];rfl
 have b6:kIn e [3]=false:=by unfold kIn;rw[hk];rfl
 have b7:kIn e [6,10]=false:=by unfold kIn;rw[hk];rfl
 have b8:kIn e [1,2,5]=false:=by unfold kIn;rw[hk];rfl
 have b9:kIn e [8,9]=false:=by unfold kIn;rw[hk];rfl
 rw[Z5 (f:=102) rfl rfl];unfold ZO2;simp only[go_sem,c102,q1,q2,q5,q3,q4,q6,q7,q8,q9,q10,q13,q14,q15,b0,b1,b2,b3,b4,b5,b6,b7,b8,b9]
 try rfl
def ZUt(e:Gt)(hk:ZD e.bq 1 15=false):pfn rE 102 [evA e]=some (evA<|ZO2 e):=by
 have hk2:e.bq<1\/15<e.bq:=by by_cases h:e.bq<1;exact Or.inl h;by_cases h2:15<e.bq;exact Or.inr h2;exfalso;simp[ZD]at hk;omega
 have q1:(e.bq==1)=false:=by rw[beq_eq_false_iff_ne];omega
 have q2:(e.bq==2)=false:=by rw[beq_eq_false_iff_ne];omega
 have q5:(e.bq==5)=false:=by rw[beq_eq_false_iff_ne];omega
 have q3:(e.bq==3)=false:=by rw[beq_eq_false_iff_ne];omega
 have q4:(e.bq==4)=false:=by rw[beq_eq_false_iff_ne];omega
 have q6:(e.bq==6)=false:=by rw[beq_eq_false_iff_ne];omega
 have q7:(e.bq==7)=false:=by rw[beq_eq_false_iff_ne];omega
 have q8:(e.bq==8)=false:=by rw[beq_eq_false_iff_ne];omega
 have q9:(e.bq==9)=false:=by rw[beq_eq_false_iff_ne];omega
 have q10:(e.bq==10)=false:=by rw[beq_eq_false_iff_ne];omega
 have q13:(e.bq==13)=false:=by rw[beq_eq_false_iff_ne];omega
 have q14:(e.bq==14)=false:=by rw[beq_eq_false_iff_ne];omega
 have q15:(e.bq==15)=false:=by rw[beq_eq_false_iff_ne];omega
 have b0:kIn e [1,13,14]=false:=by unfold kIn;simp only[ZXq,ZXH,q1,q13,q14,ZXf]
 have b1:kIn e [13,14]=false:=by unfold kIn;simp only[ZXq,ZXH,q13,q14,ZXf]
 have b2:kIn e [15]=false:=by unfold kIn;simp only[ZXq,ZXH,q15,ZXf]
 have b3:kIn e [4,6,7]=false:=by unfold kIn;simp only[ZXq,ZXH,q4,q6,q7,ZXf]
 have b4:kIn e [6,7,15]=false:=by unfold kIn;simp only[ZXq,ZXH,q6,q7,q15,ZXf]
 have b5:kIn e [10]=false:=by unfold kIn;simp only[ZXq,ZXH,q10,ZXf]
 have b6:kIn e [3]=false:=by unfold kIn;simp only[ZXq,ZXH,q3,ZXf]
 have b7:kIn e [6,10]=false:=by unfold kIn;simp only[ZXq,ZXH,q6,q10,ZXf]
 have b8:kIn e [1,2,5]=false:=by unfold kIn;simp only[ZXq,ZXH,q1,q2,q5,ZXf]
 have b9:kIn e [8,9]=false:=by unfold kIn;simp only[ZXq,ZXH,q8,q9,ZXf]
 rw[Z5 (f:=102) rfl rfl];unfold ZO2;simp only[go_sem,c102,q1,q2,q5,q3,q4,q6,q7,q8,q9,q10,q13,q14,q15,b0,b1,b2,b3,b4,b5,b6,b7,b8,b9]
 try rfl
def ZOT(e:Gt):pfn rE 102 [evA e]=some (evA<|ZO2 e):=by
 cases h:ZD e.bq 1 15 with
 |false=>exact ZUt e h
 |true=>
  have hk:1<=e.bq/\e.bq<=15:=by simpa[ZD]using h
  have:e.bq=1\/e.bq=2\/e.bq=3\/e.bq=4\/e.bq=5\/e.bq=6\/e.bq=7\/e.bq=8\/e.bq=9\/e.bq=10\/e.bq=11\/e.bq=12\/e.bq=13\/e.bq=14\/e.bq=15:=by omega
  rcases this with h|h|h|h|h|h|h|h|h|h|h|h|h|h|h
  .exact ZUe e h
  .exact ZUf e h
  .exact ZUg e h
  .exact ZUh e h
  .exact ZUi e h
  .exact ZUj e h
  .exact ZUk e h
  .exact ZUl e h
  .exact ZUm e h
  .exact ZUn e h
  .exact ZUo e h
  .exact ZUp e h
  .exact ZUq e h
  .exact ZUr e h
  .exact ZUs e h
def ZPR{α:Type}{eq:α->α->Bool}(hr:∀x,eq x x=true)(l:List α):∀(r:List α)(i:Nat),l.drop i=r->Zu (ZO6 eq l) i r=true
 |[],i,h=>rfl
 |x::r,i,h=>by
  have hx:l[i]?=some x:=by
   have:=ZY0 (xs:=l) (i:=i) (j:=0);rw[h]at this;simpa using this.symm
  have hr':l.drop (i+1)=r:=by rw[<-ZXA,h];rfl
  show(ZO6 eq l i x&&Zu (ZO6 eq l) (i+1) r)=true
  rw[ZPR hr l r (i+1) hr'];unfold ZO6;rw[hx];simp[hr]
def ZRY{α:Type}{eq:α->α->Bool}(hr:∀x,eq x x=true)(l:List α):ZOl eq l l=true:=by
 unfold ZOl;rw[ZPR hr l l 0 rfl];simp
def ZRZ{α:Type}(eq:α->α->Bool)(l:List α):ZOl eq [] l=((l.length:Int)==0):=by
 unfold ZOl;show((((0:Nat):Int)==(l.length:Int))&&true)=_
 rw[ZWv,ZWK,beq_iff_eq,beq_iff_eq];omega
def ZOJ(x:Str):Z3 x x=true:=(Ky _ _).2 rfl
def ZS0(x:HN):QL x x=true:=by unfold QL;simp[ZOJ]
def ZQo(x:Pt):QK x x=true:=by unfold QK;simp
def ZUu(x:Nm):Xg x x=true:=by unfold Xg;simp[ZOJ]
def ZUv(x:Ent):ZOm x x=true:=by unfold ZOm;simp[ZOJ,ZS0,ZQo]
def ZOu(x y:Int):(x==y)=(y==x):=Bool.beq_comm
def ZUw(x y:HN):QL x y=QL y x:=by
 unfold QL;rw[ZOu x.N,ZP4,ZOu x.Num,ZOu x.Den]
def ZUx(x y:Pt):QK x y=QK y x:=by
 unfold QK;rw[ZOu x.X,ZOu x.Y]
def ZPS{s:Str}:Z3 s emp=true↔s.size=0:=by
 rw[Ky];constructor
 .rintro rfl;rfl
 .intro e;exact ByteArray.ext<|ZYo e
def ZUy(x:Gt):Z3 (NF x) emp=(Z3 x.Id emp&&(Z3 x.br emp&&Z3 x.Text emp)):=by
 unfold NF;rw[ZWK,ZWn,ZWn,ZPS,ZPS,ZPS,ZPS,ByteArray.size_append,ByteArray.size_append];omega
def ZUz(x:Gt)(h1:x.Ids.l.length<=100)(h2:x.bk.l.length<=100)(h3:x.Path.l.length<=100)(h4:x.Lst.l.length<=100):
 NG x=(((x.Ids.l.length:Int)==0)&&(((x.bk.l.length:Int)==0)&&(((x.Path.l.length:Int)==0)&&((x.Lst.l.length:Int)==0)))):=by
 unfold NG;have w1:W ((x.Ids.l.length:Int)+(x.bk.l.length:Int))=(x.Ids.l.length:Int)+(x.bk.l.length:Int):=YM (by omega)<|by omega
 rw[w1];have w2:W ((x.Ids.l.length:Int)+(x.bk.l.length:Int)+(x.Path.l.length:Int))=(x.Ids.l.length:Int)+(x.bk.l.length:Int)+(x.Path.l.length:Int):=YM (by omega)<|by omega
 rw[w2];have w3:W ((x.Ids.l.length:Int)+(x.bk.l.length:Int)+(x.Path.l.length:Int)+(x.Lst.l.length:Int))=(x.Ids.l.length:Int)+(x.bk.l.length:Int)+(x.Path.l.length:Int)+(x.Lst.l.length:Int):=YM (by omega)<|by omega
 rw[w3,ZWK,ZWn,ZWn,ZWn,beq_iff_eq,beq_iff_eq,beq_iff_eq,beq_iff_eq,beq_iff_eq];omega
def ZUA(e:Gt)(hs:EvS e):(!Fb (Zq e)&&NG (Zq e))=ZP5 (ZO2 e) e:=by
 have hz:∀n:Nat,n=0->((n:Int)==0)=true:=λn h=>by rw[h];rfl
 have k1:kIn e [1,13,14]=(kIn e [1]||kIn e [13,14]):=by unfold kIn;simp[ZZ9]
 have k15:(e.bq==15)=kIn e [15]:=by unfold kIn;simp
 have k10:(e.bq==10)=kIn e [10]:=by unfold kIn;simp
 have k3:(e.bq==3)=kIn e [3]:=by unfold kIn;simp
 have hA:((ZO2 e).A==e.A)=((Zq e).A==0):=by
  unfold ZO2 Zq;dsimp only;rw[k1];cases kIn e [1]<;>cases kIn e [13,14]<;>simp[ZOu 0 e.A]
 have hB:((ZO2 e).B==e.B)=((Zq e).B==0):=by
  unfold ZO2 Zq;dsimp only;cases kIn e [13,14]<;>simp[ZOu 0 e.B]
 have hO:((ZO2 e).bv==e.bv)=((Zq e).bv==0):=by
  unfold ZO2 Zq;dsimp only;rw[k15];cases kIn e [15]<;>simp[ZOu 0 e.bv]
 have hI:Z3 (ZO2 e).Id e.Id=Z3 (Zq e).Id emp:=by
  unfold ZO2 Zq;dsimp only;cases kIn e [13,14]<;>simp[ZOJ,ZP4 emp e.Id]
 have hT:Z3 (ZO2 e).br e.br=Z3 (Zq e).br emp:=by
  unfold ZO2 Zq;dsimp only;cases kIn e [4,6,7]<;>simp[ZOJ,ZP4 emp e.br]
 have hX:Z3 (ZO2 e).Text e.Text=Z3 (Zq e).Text emp:=by
  unfold ZO2 Zq;dsimp only;cases kIn e [6,7,15]<;>simp[ZOJ,ZP4 emp e.Text]
 have hN:QL (ZO2 e).An e.An=QL (Zq e).An ⟨0,emp,0,0⟩:=by
  unfold ZO2 Zq;dsimp only;cases kIn e [6,10]<;>simp[ZS0,ZUw ⟨0,emp,0,0⟩ e.An]
 have hP:QK (ZO2 e).bg e.bg=QK (Zq e).bg ⟨0,0⟩:=by
  unfold ZO2 Zq;dsimp only;cases kIn e [6,10]<;>simp[ZQo,ZUx ⟨0,0⟩ e.bg]
 have l1:(((ZO2 e).Ids.l.length:Int)==(e.Ids.l.length:Int))=(((Zq e).Ids.l.length:Int)==0):=by
  unfold ZO2 Zq;dsimp only;rw[k10];cases kIn e [10]<;>simp[ZOu 0 (e.Ids.l.length:Int)]
 have l2:(((ZO2 e).Lst.l.length:Int)==(e.Lst.l.length:Int))=(((Zq e).Lst.l.length:Int)==0):=by
  unfold ZO2 Zq;dsimp only;cases kIn e [8,9]<;>simp[ZOu 0 (e.Lst.l.length:Int)]
 have l3:Zu (ZO6 Z3 e.Ids.l) 0 (ZO2 e).Ids.l=true:=by
  unfold ZO2;dsimp only;cases kIn e [10]with
  |true=>exact ZPR ZOJ _ _ 0 rfl
  |false=>rfl
 have l4:Zu (ZO6 ZOm e.Lst.l) 0 (ZO2 e).Lst.l=true:=by
  unfold ZO2;dsimp only;cases kIn e [8,9]with
  |true=>exact ZPR ZUv _ _ 0 rfl
  |false=>rfl
 have l5:ZOl Xg (ZO2 e).bk.l e.bk.l=(((Zq e).bk.l.length:Int)==0):=by
  unfold ZO2 Zq;dsimp only;rw[k3];cases kIn e [3]with
  |true=>exact ZRY ZUu _
  |false=>exact ZRZ _ _
 have l6:ZOl QK (ZO2 e).Path.l e.Path.l=(((Zq e).Path.l.length:Int)==0):=by
  unfold ZO2 Zq;dsimp only;cases kIn e [1,2,5]with
  |true=>exact ZRY ZQo _
  |false=>exact ZRZ _ _
 have s1:(Zq e).Ids.l.length<=100:=by
  unfold Zq;dsimp only;cases e.bq==10<;>simp[hs.ids]
 have s2:(Zq e).bk.l.length<=100:=by
  unfold Zq;dsimp only;cases e.bq==3<;>simp[hs.names]
 have s3:(Zq e).Path.l.length<=100:=by
  unfold Zq;dsimp only;cases kIn e [1,2,5]<;>simp[hs.path]
 have s4:(Zq e).Lst.l.length<=100:=by
  unfold Zq;dsimp only;cases kIn e [8,9]<;>simp[hs.lst]
 have hk:((ZO2 e).bq==e.bq)=true:=by unfold ZO2;simp
 have hd:((ZO2 e).Day==e.Day)=true:=by unfold ZO2;simp
 rw[ZUz _ s1 s2 s3 s4];unfold ZP5 ZQn Fb;rw[ZUy,hA,hB,hO,hI,hT,hX,hN,hP,l1,l2,l3,l4,l5,l6,hk,hd];simp only[ZOf];generalize Zq e=x;rw[ZWK];simp only[ZWn,ZWG,ZXE,ZXK];constructor
 .rintro⟨⟨⟨⟨⟨⟨a,b⟩,c⟩,d1,d2,d3⟩,f⟩,g⟩,i1,i2,i3,i4⟩;exact⟨⟨trivial,trivial,a,b,c,d1,d2,d3,f,g⟩,⟨i1,i4⟩,trivial,trivial,i2,i3⟩
 .rintro⟨⟨_,_,a,b,c,d1,d2,d3,f,g⟩,⟨i1,i4⟩,_,_,i2,i3⟩;exact⟨⟨⟨⟨⟨⟨a,b⟩,c⟩,d1,d2,d3⟩,f⟩,g⟩,i1,i2,i3,i4⟩
def okU(e:Gt):Bool:=ZD e.Day 0 100000&&ZP5 (ZO2 e) e
def ZUB(e:Gt)(hs:EvS e):Q9 e=(ZD e.bq 1 15&&(okU e&&Q8 e)):=by
 unfold Q9 okU;rw[<-ZUA e hs];cases ZD e.bq 1 15<;>cases ZD e.Day 0 100000<;>simp[ZXO]
structure EvR(e:Gt):Prop extends EvS e where
 nms:∀x∈e.bk.l,x.Lang.size<=1000000/\x.Text.size<=1000000
def ZUC(e:Gt)(hs:EvS e):(ZO2 e).Ids.l.length<=1000000/\(ZO2 e).Lst.l.length<=1000000/\(ZO2 e).bk.l.length<=1000000/\(ZO2 e).Path.l.length<=1000000:=by
 have h1:=hs.ids;have h2:=hs.lst;have h3:=hs.names;have h4:=hs.path;unfold ZO2;dsimp only;cases kIn e [10]<;>cases kIn e [8,9]<;>cases kIn e [3]<;>cases kIn e [1,2,5]<;>simp only[cond_true,cond_false,ZWQ]<;>omega
def ZOU(e:Gt)(hs:EvS e):pfn rE 101 [evA<|ZO2 e,evA e]=some (.bool<|ZP5 (ZO2 e) e):=by
 obtain⟨h1,h2,h3,h4⟩:=ZUC e hs;exact ZUd (ZO2 e) e h1 h2 h3 h4
def ZUD(e:Gt)(hs:EvS e)(h:okU e=false):pfn rE 54 [evA e]=some (.bool false):=by
 have hu:=ZOT e;have hS:=ZOU e hs;unfold okU ZD at h;generalize ZO2 e=u at h hu hS;rw[Z5 (f:=54) rfl rfl];cases d1:decide (e.Day<0)with
 |true=>simp only[go_sem,c54,d1]
 |false=>
 have p1:decide (e.Day>=0)=true:=by have:=of_decide_eq_false d1;exact decide_eq_true<|by omega
 cases d2:decide (e.Day>100000)with
 |true=>simp only[go_sem,c54,d1,d2]
 |false=>
 have p2:decide (e.Day<=100000)=true:=by have:=of_decide_eq_false d2;exact decide_eq_true<|by omega
 rw[p1,p2,ZWp,ZWp]at h;simp only[go_sem,c54,d1,d2,hu,hS,h,ZWq]
def ZP6(e:Gt)(h:okU e=true):decide (e.Day<0)=false/\decide (e.Day>100000)=false/\ZP5 (ZO2 e) e=true:=by
 unfold okU ZD at h;simp only[ZWn,decide_eq_true_eq]at h;exact⟨decide_eq_false (by omega),decide_eq_false (by omega),h.2⟩
def ZUE(e:Gt)(hs:EvR e)(hu0:okU e=true)(hk:e.bq=1):pfn rE 54 [evA e]=some (.bool<|Q8 e):=by
 have hu:=ZOT e;have hS:=ZOU e hs.toEvS;obtain⟨d1,d2,d3⟩:=ZP6 e hu0;rw[d3]at hS;generalize ZO2 e=u at hu hS;have hn:=ZOe e.Id (by have:=hs.id;omega)
 have q1:(e.bq==1)=true:=by rw[hk];rfl
 rw[Z5 (f:=54) rfl rfl];unfold Q8;have hv:=ZPK e.Path.l e.Path.ex (by have:=hs.path;omega)
 unfold ZD;cases c1:ZZ e.Id with
 |false=>simp only[go_sem,c54,d1,d2,hu,hS,hn,ZWo,q1,c1,cond_true,cond_false,ZWp,ZWr,ZWv,ZWw]
 |true=>
 cases c2:decide (e.A>=1)with
 |false=>simp only[go_sem,c54,d1,d2,hu,hS,hn,ZWo,q1,c1,c2,cond_true,cond_false,ZWp,ZWr,ZWv,ZWw]
 |true=>
 cases c5003:decide (e.A<=3)with
 |false=>simp only[go_sem,c54,d1,d2,hu,hS,hn,ZWo,q1,c1,c2,c5003,cond_true,cond_false,ZWp,ZWr,ZWv,ZWw]
 |true=>simp only[go_sem,c54,d1,d2,hu,hS,hn,ZWo,q1,c1,c2,c5003,hv,cond_true,cond_false,ZWp,ZWr,ZWv,ZWw]
def ZUF(e:Gt)(hs:EvR e)(hu0:okU e=true)(hk:e.bq=2):pfn rE 54 [evA e]=some (.bool<|Q8 e):=by
 have hu:=ZOT e;have hS:=ZOU e hs.toEvS;obtain⟨d1,d2,d3⟩:=ZP6 e hu0;rw[d3]at hS;generalize ZO2 e=u at hu hS;have hn:=ZOe e.Id (by have:=hs.id;omega)
 have q1:(e.bq==1)=false:=by rw[hk];rfl
 have q2:(e.bq==2)=true:=by rw[hk];rfl
 rw[Z5 (f:=54) rfl rfl];unfold Q8;have hv:=ZTA e.Path.l e.Path.ex (by have:=hs.path;omega)
 cases c1:ZZ e.Id<;>simp only[go_sem,c54,d1,d2,hu,hS,hn,ZWo,q1,q2,c1,hv,cond_true,cond_false,ZWp,ZWr,ZWv,ZWw]
def ZUG(e:Gt)(hs:EvR e)(hu0:okU e=true)(hk:e.bq=3):pfn rE 54 [evA e]=some (.bool<|Q8 e):=by
 have hu:=ZOT e;have hS:=ZOU e hs.toEvS;obtain⟨d1,d2,d3⟩:=ZP6 e hu0;rw[d3]at hS;generalize ZO2 e=u at hu hS;have hn:=ZOe e.Id (by have:=hs.id;omega)
 have q1:(e.bq==1)=false:=by rw[hk];rfl
 have q2:(e.bq==2)=false:=by rw[hk];rfl
 have q3:(e.bq==3)=true:=by rw[hk];rfl
 rw[Z5 (f:=54) rfl rfl];unfold Q8;have hv:=ZU8 e.bk.ex e.bk.l (by have:=hs.names;omega) hs.nms
 cases c1:ZZ e.Id<;>simp only[go_sem,c54,d1,d2,hu,hS,hn,ZWo,q1,q2,q3,c1,hv,cond_true,cond_false,ZWp,ZWr,ZWv,ZWw]
def ZUH(e:Gt)(hs:EvR e)(hu0:okU e=true)(hk:e.bq=5):pfn rE 54 [evA e]=some (.bool<|Q8 e):=by
 have hu:=ZOT e;have hS:=ZOU e hs.toEvS;obtain⟨d1,d2,d3⟩:=ZP6 e hu0;rw[d3]at hS;generalize ZO2 e=u at hu hS;have hn:=ZOe e.Id (by have:=hs.id;omega)
 have q1:(e.bq==1)=false:=by rw[hk];rfl
 have q2:(e.bq==2)=false:=by rw[hk];rfl
 have q3:(e.bq==3)=false:=by rw[hk];rfl
 have q4:(e.bq==4)=false:=by rw[hk];rfl
 have q5:(e.bq==5)=true:=by rw[hk];rfl
 rw[Z5 (f:=54) rfl rfl];unfold Q8;have hv:=ZPK e.Path.l e.Path.ex (by have:=hs.path;omega)
 cases c1:ZZ e.Id<;>simp only[go_sem,c54,d1,d2,hu,hS,hn,ZWo,q1,q2,q3,q4,q5,c1,hv,cond_true,cond_false,ZWp,ZWr,ZWv,ZWw]
def ZUI(e:Gt)(hs:EvR e)(hu0:okU e=true)(hk:e.bq=6):pfn rE 54 [evA e]=some (.bool<|Q8 e):=by
 have hu:=ZOT e;have hS:=ZOU e hs.toEvS;obtain⟨d1,d2,d3⟩:=ZP6 e hu0;rw[d3]at hS;generalize ZO2 e=u at hu hS;have hn:=ZOe e.Id (by have:=hs.id;omega)
 have q1:(e.bq==1)=false:=by rw[hk];rfl
 have q2:(e.bq==2)=false:=by rw[hk];rfl
 have q3:(e.bq==3)=false:=by rw[hk];rfl
 have q4:(e.bq==4)=false:=by rw[hk];rfl
 have q5:(e.bq==5)=false:=by rw[hk];rfl
 have q6:(e.bq==6)=true:=by rw[hk];rfl
 rw[Z5 (f:=54) rfl rfl];unfold Q8;have hv:=ZRV false false [e.Id,e.br,e.Text] (by simp) (by
  have:=hs.id;have:=hs.other;have:=hs.text;intro x hx;simp only[ZWJ,ZYb,or_false]at hx;rcases hx with rfl|rfl|rfl<;>omega)
 have hv':pfn rE 106 [.isl false false 1 [.str e.Id,.str e.br,.str e.Text]]=_:=hv;have hm:=ZTH e.An;have ho:=ZO4 e.bg;cases c1:Qv [e.Id,e.br,e.Text]with
 |false=>simp only[go_sem,c54,d1,d2,hu,hS,hn,ZWo,q1,q2,q3,q4,q5,q6,hv',c1,cond_true,cond_false,ZWp,ZWr,ZWv,ZWw]
 |true=>
 cases c2:YO e.An<;>simp only[go_sem,c54,d1,d2,hu,hS,hn,ZWo,q1,q2,q3,q4,q5,q6,hv',c1,hm,c2,ho,cond_true,cond_false,ZWp,ZWr,ZWv,ZWw]
def ZUJ(e:Gt)(hs:EvR e)(hu0:okU e=true)(hk:e.bq=7):pfn rE 54 [evA e]=some (.bool<|Q8 e):=by
 have hu:=ZOT e;have hS:=ZOU e hs.toEvS;obtain⟨d1,d2,d3⟩:=ZP6 e hu0;rw[d3]at hS;generalize ZO2 e=u at hu hS;have hn:=ZOe e.Id (by have:=hs.id;omega)
 have q1:(e.bq==1)=false:=by rw[hk];rfl
 have q2:(e.bq==2)=false:=by rw[hk];rfl
 have q3:(e.bq==3)=false:=by rw[hk];rfl
 have q4:(e.bq==4)=false:=by rw[hk];rfl
 have q5:(e.bq==5)=false:=by rw[hk];rfl
 have q6:(e.bq==6)=false:=by rw[hk];rfl
 have q7:(e.bq==7)=true:=by rw[hk];rfl
 rw[Z5 (f:=54) rfl rfl];unfold Q8;have hv:=ZRV false false [e.Id,e.br] (by simp) (by
  have:=hs.id;have:=hs.other;intro x hx;simp only[ZWJ,ZYb,or_false]at hx;rcases hx with rfl|rfl<;>omega)
 have hv':pfn rE 106 [.isl false false 1 [.str e.Id,.str e.br]]=_:=hv;have hd:=ZU3 e.Text 24 (by have:=hs.text;omega)
 cases c1:Qv [e.Id,e.br]<;>simp only[go_sem,c54,d1,d2,hu,hS,hn,ZWo,q1,q2,q3,q4,q5,q6,q7,hv',c1,hd,cond_true,cond_false,ZWp,ZWr,ZWv,ZWw]
def ZUK(e:Gt)(hs:EvR e)(hu0:okU e=true)(hk:e.bq=15):pfn rE 54 [evA e]=some (.bool<|Q8 e):=by
 have hu:=ZOT e;have hS:=ZOU e hs.toEvS;obtain⟨d1,d2,d3⟩:=ZP6 e hu0;rw[d3]at hS;generalize ZO2 e=u at hu hS;have hn:=ZOe e.Id (by have:=hs.id;omega)
 have q1:(e.bq==1)=false:=by rw[hk];rfl
 have q2:(e.bq==2)=false:=by rw[hk];rfl
 have q3:(e.bq==3)=false:=by rw[hk];rfl
 have q4:(e.bq==4)=false:=by rw[hk];rfl
 have q5:(e.bq==5)=false:=by rw[hk];rfl
 have q6:(e.bq==6)=false:=by rw[hk];rfl
 have q7:(e.bq==7)=false:=by rw[hk];rfl
 have q8:(e.bq==8)=false:=by rw[hk];rfl
 have q9:(e.bq==9)=false:=by rw[hk];rfl
 have q10:(e.bq==10)=false:=by rw[hk];rfl
 have q11:(e.bq==11)=false:=by rw[hk];rfl
 have q12:(e.bq==12)=false:=by rw[hk];rfl
 have q13:(e.bq==13)=false:=by rw[hk];rfl
 have q14:(e.bq==14)=false:=by rw[hk];rfl
 have q15:(e.bq==15)=true:=by rw[hk];rfl
 rw[Z5 (f:=54) rfl rfl];unfold Q8;have hv:=ZTX e.Text (by have:=hs.text;omega)
 unfold ZD;cases c1:ZZ e.Id with
 |false=>simp only[go_sem,c54,d1,d2,hu,hS,hn,ZWo,q1,q2,q3,q4,q5,q6,q7,q8,q9,q10,q11,q12,q13,q14,q15,c1,cond_true,cond_false,ZWp,ZWr,ZWv,ZWw]
 |true=>
 cases c2:decide (e.bv>=0)with
 |false=>simp only[go_sem,c54,d1,d2,hu,hS,hn,ZWo,q1,q2,q3,q4,q5,q6,q7,q8,q9,q10,q11,q12,q13,q14,q15,c1,c2,cond_true,cond_false,ZWp,ZWr,ZWv,ZWw]
 |true=>
 cases c5003:decide (e.bv<=63)with
 |false=>simp only[go_sem,c54,d1,d2,hu,hS,hn,ZWo,q1,q2,q3,q4,q5,q6,q7,q8,q9,q10,q11,q12,q13,q14,q15,c1,c2,c5003,cond_true,cond_false,ZWp,ZWr,ZWv,ZWw]
 |true=>simp only[go_sem,c54,d1,d2,hu,hS,hn,ZWo,q1,q2,q3,q4,q5,q6,q7,q8,q9,q10,q11,q12,q13,q14,q15,c1,c2,c5003,hv,cond_true,cond_false,ZWp,ZWr,ZWv,ZWw]
def ZOg(n:Int):pfn rE 51 [I n]=some (.bool<|ZD n 0 63):=by
 rw[Z5 (f:=51) rfl rfl];unfold ZD;cases c:decide (n>=0)<;>simp only[go_sem,c51,c,ZWp,ZWr]
def ZOj(n a:Int):pfn rE 52 [I n,I a]=some (.bool<|ZD n a 100000):=by
 rw[Z5 (f:=52) rfl rfl];unfold ZD;cases c:decide (n>=a)<;>simp only[go_sem,c52,c,ZWp,ZWr]
def ZUL(s:Sta)(hs:StS s)(id:Str):pfn rE 114 [stA s,.str id]=some (I<|ZL s id):=by
 have L:=ZDU (E:=rE) (live:=[1,2,5]) (b:=c114L0b) (h:=[]) s.Gr (λx=>Z3 x.Id id) (λi=>[(1,.str id),(2,stI s),(5,I i)]) 0 (λi fr=>get fr 4=I i) (λk=>rfl)
  (λi x hx hP=>by
   have hg:=Z6 (f:=Ev.enc) hx;have hlt:=Zh<|Z7 hx;have hw:=Zx (n:=i) (by have:=Z7 hx;have:=hs.streets;omega)
   have hP':Z3 x.Id id=false:=hP;refine⟨_,by simp only[go_sem,c114L0b,hg,hlt,hw,Ev.enc,hP',ZWm];rfl,?_⟩
   simp only[go_sem])
  (λi x hx hP=>by
   have hg:=Z6 (f:=Ev.enc) hx;have hlt:=Zh<|Z7 hx;have hP':Z3 x.Id id=true:=hP;refine⟨_,by simp only[go_sem,c114L0b,hg,hlt,Ev.enc,hP',ZWm];rfl,?_⟩
   simp only[go_sem])
  (⟨_,by simp only[go_sem,c114L0b,ZG,ZWm];rfl⟩)
 obtain⟨fr',h1,h2⟩:=L;have h1':Zg rE [1,2,5] c114L0b [(1,.str id),(2,stI s),(5,.int .i64 0)] []=_:=h1;rw[Z5 (f:=114) rfl rfl];unfold ZL;by_cases hc:Zp (λx:Ev=>Z3 x.Id id) s.Gr 0=-1
 .rw[if_pos hc]at h1';rw[hc];simp only[go_sem,c114,c114L0,h1']
 .rw[if_neg hc]at h1';obtain⟨i,e,g4⟩:=h2 hc;rw[e];simp only[go_sem,c114,c114L0,h1',g4]
def ZUM(s:Sta)(hs:StS s)(id:Str):pfn rE 113 [stA s,.str id]=some (I<|Y1 s id):=by
 have L:=ZDU (E:=rE) (live:=[1,2,5]) (b:=c113L0b) (h:=[]) s.By (λx=>Z3 x.Id id) (λi=>[(1,.str id),(2,stI s),(5,I i)]) 0 (λi fr=>get fr 4=I i) (λk=>rfl)
  (λi x hx hP=>by
   have hg:=Z6 (f:=Fa.enc) hx;have hlt:=Zh<|Z7 hx;have hw:=Zx (n:=i) (by have:=Z7 hx;have:=hs.buildings;omega)
   have hP':Z3 x.Id id=false:=hP;refine⟨_,by simp only[go_sem,c113L0b,hg,hlt,hw,Fa.enc,hP',ZWm];rfl,?_⟩
   simp only[go_sem])
  (λi x hx hP=>by
   have hg:=Z6 (f:=Fa.enc) hx;have hlt:=Zh<|Z7 hx;have hP':Z3 x.Id id=true:=hP;refine⟨_,by simp only[go_sem,c113L0b,hg,hlt,Fa.enc,hP',ZWm];rfl,?_⟩
   simp only[go_sem])
  (⟨_,by simp only[go_sem,c113L0b,ZG,ZWm];rfl⟩)
 obtain⟨fr',h1,h2⟩:=L;have h1':Zg rE [1,2,5] c113L0b [(1,.str id),(2,stI s),(5,.int .i64 0)] []=_:=h1;rw[Z5 (f:=113) rfl rfl];unfold Y1;by_cases hc:Zp (λx:Fa=>Z3 x.Id id) s.By 0=-1
 .rw[if_pos hc]at h1';rw[hc];simp only[go_sem,c113,c113L0,h1']
 .rw[if_neg hc]at h1';obtain⟨i,e,g4⟩:=h2 hc;rw[e];simp only[go_sem,c113,c113L0,h1',g4]
def ZOK(s:Sta)(hs:StS s)(id:Str):pfn rE 58 [stA s,.str id]=some (I<|Zn s id):=by
 have L:=ZDU (E:=rE) (live:=[1,2,5]) (b:=c58L0b) (h:=[]) s.Bc (λx=>Z3 x.Id id) (λi=>[(1,.str id),(2,stI s),(5,I i)]) 0 (λi fr=>get fr 4=I i) (λk=>rfl)
  (λi x hx hP=>by
   have hg:=Z6 (f:=Gc.enc) hx;have hlt:=Zh<|Z7 hx;have hw:=Zx (n:=i) (by have:=Z7 hx;have:=hs.doors;omega)
   have hP':Z3 x.Id id=false:=hP;refine⟨_,by simp only[go_sem,c58L0b,hg,hlt,hw,Gc.enc,hP',ZWm];rfl,?_⟩
   simp only[go_sem])
  (λi x hx hP=>by
   have hg:=Z6 (f:=Gc.enc) hx;have hlt:=Zh<|Z7 hx;have hP':Z3 x.Id id=true:=hP;refine⟨_,by simp only[go_sem,c58L0b,hg,hlt,Gc.enc,hP',ZWm];rfl,?_⟩
   simp only[go_sem])
  (⟨_,by simp only[go_sem,c58L0b,ZG,ZWm];rfl⟩)
 obtain⟨fr',h1,h2⟩:=L;have h1':Zg rE [1,2,5] c58L0b [(1,.str id),(2,stI s),(5,.int .i64 0)] []=_:=h1;rw[Z5 (f:=58) rfl rfl];unfold Zn;by_cases hc:Zp (λx:Gc=>Z3 x.Id id) s.Bc 0=-1
 .rw[if_pos hc]at h1';rw[hc];simp only[go_sem,c58,c58L0,h1']
 .rw[if_neg hc]at h1';obtain⟨i,e,g4⟩:=h2 hc;rw[e];simp only[go_sem,c58,c58L0,h1',g4]
def ZUN(s:Sta)(hs:StS s)(a:Int):pfn rE 100 [stA s,I a]=some (I<|XJ s a):=by
 have n1:((1:Int)).toNat=1:=rfl;have n0:((0:Int)).toNat=0:=rfl;have L:=ZDU (E:=rE) (live:=[1,2,5]) (b:=c100L0b) (h:=[]) s.Gk (λp=>p.b==a) (λi=>[(1,I a),(2,stI s),(5,I i)]) 0 (λi fr=>∃p,s.Gk[i]?=some p/\get fr 4=I p.a) (λk=>rfl)
  (λi x hx hP=>by
   have hg:=Z6 (f:=bf.enc) hx;have hlt:=Zh<|Z7 hx;have hw:=Zx (n:=i) (by have:=Z7 hx;have:=hs.merged;omega)
   have hP':(x.b==a)=false:=hP;refine⟨_,by simp only[go_sem,c100L0b,hg,hlt,hw,bf.enc,XL,n1,if_true,hP',ZWm];rfl,?_⟩
   simp only[go_sem])
  (λi x hx hP=>by
   have hg:=Z6 (f:=bf.enc) hx;have hlt:=Zh<|Z7 hx;have hP':(x.b==a)=true:=hP;refine⟨_,by simp only[go_sem,c100L0b,hg,hlt,bf.enc,WJ,XL,n0,n1,if_true,hP',ZWm];rfl,x,hx,?_⟩
   simp only[go_sem])
  (⟨_,by simp only[go_sem,c100L0b,ZG,ZWm];rfl⟩)
 obtain⟨fr',h1,h2⟩:=L;have h1':Zg rE [1,2,5] c100L0b [(1,I a),(2,stI s),(5,.int .i64 0)] []=_:=h1;rw[Z5 (f:=100) rfl rfl];unfold XJ;rcases UA (λp:bf=>p.b==a) s.Gk 0 with⟨hc,hf⟩|⟨j,x,hc,hx,hf⟩
 .rw[if_pos hc]at h1';rw[hf];simp only[go_sem,c100,c100L0,h1']
 .have hn:Zp (λp:bf=>p.b==a) s.Gk 0≠-1:=by rw[hc];omega
  rw[if_neg hn]at h1';obtain⟨i,e,p,hp,g4⟩:=h2 hn;have:i=j:=by rw[hc]at e;omega
  subst this;rw[hx]at hp;cases hp;rw[hf];simp only[go_sem,c100,c100L0,h1',g4]
def ZOv(e:Gt)(hs:EvR e)(hk:e.bq=1\/e.bq=2\/e.bq=3\/e.bq=5\/e.bq=6\/e.bq=7\/e.bq=15):pfn rE 54 [evA e]=some (.bool<|Q9 e):=by
 have hw:ZD e.bq 1 15=true:=by unfold ZD;rw[ZWn,decide_eq_true_eq,decide_eq_true_eq];omega
 rw[ZUB e hs.toEvS,hw,ZWp];cases hu:okU e with
 |false=>exact ZUD e hs.toEvS hu
 |true=>
  rw[ZWp];rcases hk with h|h|h|h|h|h|h
  .exact ZUE e hs hu h
  .exact ZUF e hs hu h
  .exact ZUG e hs hu h
  .exact ZUH e hs hu h
  .exact ZUI e hs hu h
  .exact ZUJ e hs hu h
  .exact ZUK e hs hu h
def ZPT(l:List Nm)(ex:Bool)(hl:l.length<=100)(hs:∀x∈l,x.Lang.size<=1000000/\x.Text.size<=1000000):pfn rE 53 [.isl false ex 3<|l.map Nm.enc]=some (.bool<|Jp l ex):=by
 have h:=ZOv (Jo l ex) ⟨⟨by simp[Jo],hl,by simp[Jo],by simp[Jo],ZWP rfl,ZWP rfl,ZWP rfl⟩,hs⟩<|Or.inr<|Or.inr<|Or.inl rfl
 have h':pfn rE 54 [.agg [I 3,I 0,I 0,I 0,I 0,.str<|B [120],.str emp,.str emp,.isl false false 1 [],.isl false ex 3<|l.map Nm.enc,I 0,.str emp,I 0,I 0,I 0,I 0,.isl false false 2 [],.isl false false 7 []]]=some (.bool<|Q9<|Jo l ex):=h;rw[Z5 (f:=53) rfl rfl];unfold Jp;cases c:(l.length:Int)==0<;>simp only[go_sem,c53,c,h',ZWm,ZWC,ZWB]
def ZOC(e:Gt)(h:e.bk.l=[]):∀x∈e.bk.l,x.Lang.size<=1000000/\x.Text.size<=1000000:=by
 rw[h];intro x hx;cases hx
def ZOL(d:Gc):Bool:=Q9 {NM d with bq:=15}&&(Z3 d.Fa emp&&(Z3 d.Ev emp&&(QL d.An ⟨0,emp,0,0⟩&&QK d.bg ⟨0,0⟩)))
def ZS1(d:Gc)(hd:DoS d):pfn rE 57 [Zo d]=some (.bool<|ZOL d):=by
 have h:=ZOv {NM d with bq:=15} ⟨⟨by simp[NM],by simp[NM],by simp[NM],by simp[NM],hd.id,ZWP rfl,hd.veil⟩,ZOC _ rfl⟩<|by simp
 have h':pfn rE 54 [.agg [I 15,I 0,I 0,I 0,I d.bv,.str d.Id,.str emp,.str d.Veil,.isl false false 1 [],.isl false false 3 [],I 0,.str emp,I 0,I 0,I 0,I 0,.isl false false 2 [],.isl false false 7 []]]=some (.bool<|Q9 {NM d with bq:=15}):=h
 have hn:(d.An.N==0&&(Z3 d.An.bm emp&&(d.An.Num==0&&d.An.Den==0)))=QL d.An ⟨0,emp,0,0⟩:=rfl;have hp:(d.bg.X==0&&d.bg.Y==0)=QK d.bg ⟨0,0⟩:=rfl;rw[Z5 (f:=57) rfl rfl];unfold ZOL;cases c1:Q9 {NM d with bq:=15}with
 |false=>simp only[go_sem,c57,Zo,h',c1,ZWq,ZWr]
 |true=>
 cases c2:Z3 d.Fa emp with
 |false=>simp only[go_sem,c57,Zo,h',c1,c2,ZWo,ZWp,ZWr]
 |true=>
 cases c5003:Z3 d.Ev emp with
 |false=>simp only[go_sem,c57,Zo,h',c1,c2,c5003,ZWo,ZWp,ZWr]
 |true=>
 cases c5004:QL d.An ⟨0,emp,0,0⟩<;>simp only[go_sem,c57,Zo,h',c1,c2,c5003,hn,hp,c5004,ZWo,ZWp,ZWr]
def ZUO(d:Gc):ZOL d=NN d:=by
 unfold ZOL NN;cases Z3 d.Fa emp<;>cases Z3 d.Ev emp<;>cases QL d.An ⟨0,emp,0,0⟩<;>cases QK d.bg ⟨0,0⟩<;>simp
def ZOV(s:Sta)(d:Gc):Bool:=Q9 {Hf d with bq:=6}&&!NO s d
def ZPU{α:Type}(P:α->Bool)(l:List α)(h:decide (Zp P l 0>=0)=true):∃(j:Nat)(x:α),Zp P l 0=(j:Int)/\l[j]?=some x:=by
 rcases UA P l 0 with⟨hc,_⟩|⟨j,x,hc,hx,_⟩
 .rw[hc]at h;cases h
 .exact⟨j,x,by omega,hx⟩
def ZS2(s:Sta)(hs:StS s)(d:Gc)(hd:DoS d):pfn rE 56 [stA s,Zo d]=some (.bool<|ZOV s d):=by
 have h:=ZOv {Hf d with bq:=6} ⟨⟨by simp[Hf],by simp[Hf],by simp[Hf],by simp[Hf],hd.id,hd.building,hd.street⟩,ZOC _ rfl⟩<|by simp
 have h':pfn rE 54 [.agg [I 6,I 0,I 0,I 0,I 0,.str d.Id,.str d.Fa,.str d.Ev,.isl false false 1 [],.isl false false 3 [],I d.An.N,.str d.An.bm,I d.An.Num,I d.An.Den,I d.bg.X,I d.bg.Y,.isl false false 2 [],.isl false false 7 []]]=some (.bool<|Q9 {Hf d with bq:=6}):=h
 have hb:=ZUM s hs d.Fa;have ht:=ZUL s hs d.Ev;rw[Z5 (f:=56) rfl rfl];unfold ZOV NO;have neg:∀n:Int,decide (n<0) = !decide (n>=0):=λn=>by rw[<-decide_not,decide_eq_decide];omega
 rw[neg,neg];cases c1:Q9 {Hf d with bq:=6}with
 |false=>simp only[go_sem,c56,Zo,h',c1,ZWq,ZWr]
 |true=>
 cases c2:(d.bv != 0)with
 |true=>simp only[go_sem,c56,Zo,h',c1,c2,ZWo,ZWp,ZWC,ZX0]
 |false=>
 cases c5003:decide (Y1 s d.Fa>=0)with
 |false=>simp only[go_sem,c56,Zo,h',c1,c2,hb,ht,c5003,ZWo,ZWq,ZWp,ZWC,ZX0]
 |true=>
 cases c5004:decide (ZL s d.Ev>=0)with
 |false=>simp only[go_sem,c56,Zo,h',c1,c2,hb,ht,c5003,c5004,ZWo,ZWq,ZWp,ZWC,ZX0]
 |true=>
 unfold exD;cases c5005:(d.Ld==-1)with
 |false=>
  have c5':(d.Ld != -1)=true:=by rw[bne,c5005];rfl
  simp only[go_sem,c56,Zo,h',c1,c2,hb,ht,c5003,c5004,c5',ZWo,ZWq,ZWp,ZWr,ZXf]
 |true=>
  have c5':(d.Ld != -1)=false:=by rw[bne,c5005];rfl
  obtain⟨j,x,hj,hx⟩:=ZPU _ s.By c5003;obtain⟨k,y,hk,hy⟩:=ZPU _ s.Gr c5004;have hjb:Y1 s d.Fa=(j:Int):=hj;have hks:ZL s d.Ev=(k:Int):=hk;have e1:WL s (j:Int)=x.Ld:=by unfold WL;rw[ZXR,hx]
  have e2:QF s (k:Int)=y.Ld:=by unfold QF;rw[ZXR,hy]
  have g1:=Z6 (f:=Fa.enc) hx;have g2:=Z6 (f:=Ev.enc) hy;rw[hjb]at hb c5003;rw[hks]at ht c5004;rw[hjb,hks,e1,e2];have q1:(x.Ld != -1) = !(x.Ld==-1):=rfl;have q2:(y.Ld != -1) = !(y.Ld==-1):=rfl;cases c5006:(x.Ld==-1)with
  |false=>simp only[go_sem,c56,Zo,h',c1,c2,hb,ht,c5003,c5004,c5',g1,Fa.enc,q1,q2,c5006,ZWo,ZWq,ZWp,ZWr,ZWC,ZX0]
  |true=>cases c30:(y.Ld==-1)<;>simp only[go_sem,c56,Zo,h',c1,c2,hb,ht,c5003,c5004,c5',g1,g2,Fa.enc,Ev.enc,q1,q2,c5006,c30,ZWo,ZWq,ZWp,ZWr,ZWC,ZX0,ZXf]
def prS(l:List Str)(k:Nat)(x:Str):Bool:=(l.take k).all (λy=>!Z3 y x)
def afS(s:Sta)(i:Int)(l:List Str)(k:Nat)(x:Str):Bool:=!decide (Zn s x<=i)&&prS l k x
def ZS3(v:AV)(hv:∀n,bel n v=true)(i:Int)(d:Gc)(hd:DoS d)(k:Nat)(x:Str)(hx:d.After.l[k]?=some x):∃fr',Zg rE [1,2,5,6,7,8] c55L0b [(1,I i),(2,v),(5,.ptr 0 0 0 1),(6,I d.After.l.length),(7,I k),(8,.int .i64 0)] [.row 16 [Zo d]] =
 some (if prS d.After.l k x=true then .exit 2 else .ret,fr',[.row 16 [Zo d]])/\
 (prS d.After.l k x=true->get fr' 1=I i/\get fr' 2=v/\get fr' 5=.ptr 0 0 0 1/\get fr' 6=I d.After.l.length/\get fr' 7=I k)/\(prS d.After.l k x=false->get fr' 4=.bool false):=by
 have hgx:=Z6 (f:=encS) hx;have hli:=Z7 hx;have hl:=hd.after;have L:=QT (E:=rE) (live:=[1,2,5,6,7,8]) (b:=c55L0b) (h:=[.row 16 [Zo d]]) (d.After.l.take k) (λ_ y=>!Z3 y x) (λj=>[(1,I i),(2,v),(5,.ptr 0 0 0 1),(6,I d.After.l.length),(7,I k),(8,I j)]) 2
  (λfr=>get fr 1=I i/\get fr 2=v/\get fr 5=.ptr 0 0 0 1/\get fr 6=I d.After.l.length/\get fr 7=I k) (λfr=>get fr 4=.bool false) (λk=>rfl)
  (λj y hy hP=>by
   obtain⟨hy',hk⟩:=HH hy;have hgy:=Z6 (f:=encS) hy';have hlt:=Zh hk;have hw:=Zx (n:=j)<|by omega
   have hP':Z3 y x=false:=by simpa using hP
   refine⟨_,by simp only[go_sem,c55L0b,Zo,hv,hgx,hgy,hlt,hw,encS,hP'];rfl,?_⟩
   simp only[go_sem])
  (λj y hy hP=>by
   obtain⟨hy',hk⟩:=HH hy;have hgy:=Z6 (f:=encS) hy';have hlt:=Zh hk;have hP':Z3 y x=true:=by simpa using hP
   refine⟨_,by simp only[go_sem,c55L0b,Zo,hv,hgx,hgy,hlt,encS,hP'];rfl,?_⟩
   simp only[go_sem])
  (by
   have e:(d.After.l.take k).length=k:=by rw[ZWT];omega
   rw[e];exact⟨_,by simp only[go_sem,c55L0b,hv,ZG];rfl,by simp only[go_sem],by simp only[go_sem],by simp only[go_sem],by simp only[go_sem],by simp only[go_sem]⟩)
 rw[QE]at L;exact L
def ZUP(s:Sta)(hs:StS s)(i:Int)(d:Gc)(hd:DoS d):∃fr',Zg rE [1,2,5,6,7] c55L1b [(1,I i),(2,stI s),(5,.ptr 0 0 0 1),(6,I d.After.l.length),(7,.int .i64 0)] [.row 16 [Zo d]] =
 some (if Zu (afS s i d.After.l) 0 d.After.l=true then .exit 0 else .ret,fr',[.row 16 [Zo d]])/\
 (Zu (afS s i d.After.l) 0 d.After.l=true->get fr' 5=.ptr 0 0 0 1/\get fr' 6=I d.After.l.length)/\(Zu (afS s i d.After.l) 0 d.After.l=false->get fr' 4=.bool false):=by
 have hl:=hd.after;exact QT (E:=rE) (live:=[1,2,5,6,7]) (b:=c55L1b) (h:=[.row 16 [Zo d]]) d.After.l (afS s i d.After.l) (λj=>[(1,I i),(2,stI s),(5,.ptr 0 0 0 1),(6,I d.After.l.length),(7,I j)]) 0
  (λfr=>get fr 5=.ptr 0 0 0 1/\get fr 6=I d.After.l.length) (λfr=>get fr 4=.bool false) (λk=>rfl)
  (λk x hx hP=>by
   have hg:=Z6 (f:=encS) hx;have hlt:=Zh<|Z7 hx;have hw:=Zx (n:=k) (by have:=Z7 hx;omega)
   obtain⟨fr',h1,h2,_⟩:=ZS3 (stI s) (λn=>rfl) i d hd k x hx
   have hf:=ZOK s hs x;unfold afS at hP;rw[ZWn,ZWG]at hP;rw[hP.2]at h1;obtain⟨g1,g2,g5,g6,g7⟩:=h2 hP.2;refine⟨_,by simp only[go_sem,c55L1b,c55L0,Zo,hg,hlt,hw,encS,hf,hP.1,if_true];rw[show(AV.agg [.str d.Id,.str d.Fa,.str d.Ev,I d.bh,I d.An.N,.str d.An.bm,I d.An.Num,I d.An.Den,I d.bg.X,I d.bg.Y,I d.From,I d.Ld,.isl false d.After.ex 1<|d.After.l.map encS,I d.Why,I d.bv,.str d.Veil])=Zo d from rfl,h1];simp only[go_sem,hw,g1,g2,g5,g6,g7,if_true];rfl,?_⟩
   simp only[go_sem])
  (λk x hx hP=>by
   have hg:=Z6 (f:=encS) hx;have hlt:=Zh<|Z7 hx;obtain⟨fr',h1,_,h2⟩:=ZS3 (stI s) (λn=>rfl) i d hd k x hx
   have hf:=ZOK s hs x;unfold afS at hP;cases c:decide (Zn s x<=i)with
   |true=>
    refine⟨_,by simp only[go_sem,c55L1b,Zo,hg,hlt,encS,hf,c];rfl,?_⟩
    simp only[go_sem]
   |false=>
    rw[c,ZWq,ZWp]at hP;rw[hP]at h1;refine⟨_,by simp only[go_sem,c55L1b,c55L0,Zo,hg,hlt,encS,hf,c,if_true];rw[show(AV.agg [.str d.Id,.str d.Fa,.str d.Ev,I d.bh,I d.An.N,.str d.An.bm,I d.An.Num,I d.An.Den,I d.bg.X,I d.bg.Y,I d.From,I d.Ld,.isl false d.After.ex 1<|d.After.l.map encS,I d.Why,I d.bv,.str d.Veil])=Zo d from rfl,h1];simp only[go_sem,ZWt,if_false];rfl,?_⟩
    simp only[go_sem,h2 hP])
  (⟨_,by simp only[go_sem,c55L1b,ZG];rfl,by simp only[go_sem],by simp only[go_sem]⟩)
def ZPi(d:Gc):Bool:=
 bif d.Ld==-1 then(Yf d==0&&d.Why==0)else bif d.Why==12 then Yf d==0 else bif !Z3 d.Veil emp then false else
  ((d.Why==11&&Yf d==0)||((d.Why==9&&decide (Yf d>=2))&&decide (Yf d<=8)))||(d.Why==10&&Yf d==1)
def ZS4(s:Sta)(hs:StS s)(i:Nat)(d:Gc)(hx:s.Bc[i]?=some d)(hd:DoS d):pfn rE 55 [stA s,I i]=some (.bool<|Zu (afS s i d.After.l) 0 d.After.l&&ZPi d):=by
 obtain⟨fr',h1,h2,h3⟩:=ZUP s hs i d hd;have hg:=Z6 (f:=Gc.enc) hx;have hda:Gc.enc d=Zo d:=rfl;rw[hda]at hg;rw[Z5 (f:=55) rfl rfl];cases hc:Zu (afS s i d.After.l) 0 d.After.l with
 |false=>
  rw[hc]at h1;have g4:=h3 hc;unfold Zo at h1 hg;simp only[go_sem,c55,c55L1,hg,ZWm,h1,g4,ZWr,ZWt]
 |true=>
  rw[hc]at h1;obtain⟨g5,g6⟩:=h2 hc;unfold Zo at h1 hg;unfold ZPi;have en:(d.After.l.length:Int)=Yf d:=rfl;rw[en]at h1 g6;cases c1:(d.Ld==-1)with
  |true=>cases c2:(Yf d==0)<;>simp only[go_sem,c55,c55L1,hg,ZWm,en,h1,g5,g6,c1,c2,ZWr,ZWp]
  |false=>
  cases c5003:(d.Why==12)with
  |true=>simp only[go_sem,c55,c55L1,hg,ZWm,en,h1,g5,g6,c1,c5003,ZWp]
  |false=>
  have nv:∀x:Str,(!Z3 x emp) = !Z3 x emp:=λ_=>rfl
  cases c5004:Z3 d.Veil emp with
  |false=>simp only[go_sem,c55,c55L1,hg,ZWm,en,h1,g5,g6,c1,c5003,c5004,ZWq,ZWw]
  |true=>
  cases c5005:(d.Why==11)with
  |true=>
   have e:=eq_of_beq c5005;have c30:(d.Why==9)=false:=by rw[e];rfl
   have c25:(d.Why==10)=false:=by rw[e];rfl
   cases c5006:(Yf d==0)<;>simp only[go_sem,c55,c55L1,hg,ZWm,en,h1,g5,g6,c1,c5003,c5004,c5005,c5006,c30,c25,ZWo,ZWp,ZWr,ZWv,ZWw,ZWC,ZX0,ZWB,ZWS]
  |false=>
  cases c30:(d.Why==9)with
  |true=>
   have e:=eq_of_beq c30;have c25:(d.Why==10)=false:=by rw[e];rfl
   cases c5008:decide (Yf d>=2)with
   |false=>simp only[go_sem,c55,c55L1,hg,ZWm,en,h1,g5,g6,c1,c5003,c5004,c5005,c30,c5008,c25,ZWo,ZWp,ZWr,ZWv,ZWw,ZWC,ZX0,ZWB,ZWS]
   |true=>cases c19:decide (Yf d<=8)<;>simp only[go_sem,c55,c55L1,hg,ZWm,en,h1,g5,g6,c1,c5003,c5004,c5005,c30,c5008,c19,c25,ZWo,ZWp,ZWr,ZWv,ZWw,ZWC,ZX0,ZWB,ZWS]
  |false=>
  cases c25:(d.Why==10)with
  |false=>simp only[go_sem,c55,c55L1,hg,ZWm,en,h1,g5,g6,c1,c5003,c5004,c5005,c30,c25,ZWo,ZWp,ZWr,ZWv,ZWw,ZWC,ZX0,ZWB,ZWS]
  |true=>cases c5011:(Yf d==1)<;>simp only[go_sem,c55,c55L1,hg,ZWm,en,h1,g5,g6,c1,c5003,c5004,c5005,c30,c25,c5011,ZWo,ZWp,ZWr,ZWv,ZWw,ZWC,ZX0,ZWB,ZWS]
def ZS5:∀(l K:List Str),pwD Z3 K l=true↔l.Nodup/\∀x∈l,x ∉ K
 |[],K=>by simp[pwD]
 |x::r,K=>by
  have ha:K.any (Z3 x)=true↔x∈K:=by
   rw[List.any_eq_true];exact⟨λ⟨y,h1,h2⟩=>by rw[(Ky _ _).1 h2];exact h1,λh=>⟨x,h,ZOJ x⟩⟩
  unfold pwD;rw[ZWn,ZWG,ZS5 r<|K++[x],ZXD];have hb:K.any (Z3 x)=false↔x ∉ K:=by rw[<-ha];simp
  rw[hb];constructor
  .rintro⟨h1,h2,h3⟩;refine⟨⟨λh=>h3 x h (by simp),h2⟩,?_⟩
   intro y hy;rcases ZWJ.1 hy with rfl|hy
   .exact h1
   .exact λh=>h3 y hy<|ZXP _ h
  .rintro⟨⟨h1,h2⟩,h3⟩;refine⟨h3 x (by simp),h2,?_⟩
   intro y hy h;rcases ZX5.1 h with h|h
   .exact h3 y (by simp[hy]) h
   .rw[ZWY]at h;subst h;exact h1 hy
def ZUQ(l:List Str):XH Z3 l=true↔l.Nodup:=by
 unfold XH;have h:=(ZPP Z3 l []).2;rw[ZWQ,ZWD,ZS5]at h;rw[beq_iff_eq];rw[show(((l.foldl (Qi Z3) []).length:Nat):Int)=(l.length:Int)↔(l.foldl (Qi Z3) []).length=l.length from by omega,h]
 simp
def ZS6(l:List Str):XH Z3 l=Jq l:=by
 rw[ZWK,ZUQ,Zdk]
def ZUR(s:Sta)(i:Int)(d:Gc):Zu (afS s i d.After.l) 0 d.After.l=(K8 s i d&&Jq d.After.l):=by
 have e:∀k x,afS s i d.After.l k x=(!decide (Zn s x<=i)&&!(d.After.l.take k).any (Z3 x)):=λk x=>by
  unfold afS prS;rw[ZPg];congr 1;apply ZOs;intro y _;rw[ZP4]
 rw[ZP3 d.After.l 0 e,ZPr,<-ZPQ,ZS6,QE<|λx=>!decide (Zn s x<=i)]
 rfl
def ZUS(d:Gc):ZPi d = !((((!(exD d==(d.Why==0)))||(exD d&&decide (Yf d>0)))||(!exD d&&!He d))):=by
 have hn:0<=Yf d:=by unfold Yf;omega
 have hp:decide (Yf d>0) = !(Yf d==0):=by
  rw[ZWK,decide_eq_true_eq,ZWG,beq_eq_false_iff_ne];omega
 unfold ZPi He exD ZD;rw[hp];cases c1:(d.Ld==-1)with
 |true=>cases(Yf d==0)<;>cases(d.Why==0)<;>rfl
 |false=>
 by_cases e12:d.Why=12
 .rw[e12];cases(Yf d==0)<;>rfl
 by_cases e11:d.Why=11
 .rw[e11];cases(Yf d==0)<;>cases Z3 d.Veil emp<;>rfl
 by_cases e9:d.Why=9
 .rw[e9];cases decide (Yf d>=2)<;>cases decide (Yf d<=8)<;>cases Z3 d.Veil emp<;>rfl
 by_cases e10:d.Why=10
 .rw[e10];cases(Yf d==1)<;>cases Z3 d.Veil emp<;>rfl
 have q12:(d.Why==12)=false:=beq_eq_false_iff_ne.2 e12;have q11:(d.Why==11)=false:=beq_eq_false_iff_ne.2 e11;have q9:(d.Why==9)=false:=beq_eq_false_iff_ne.2 e9;have q10:(d.Why==10)=false:=beq_eq_false_iff_ne.2 e10;rw[q12,q11,q9,q10];cases(d.Why==0)<;>cases Z3 d.Veil emp<;>simp
def ZOM(s:Sta)(i:Nat)(d:Gc):Bool:=ZD d.bh 0 63&&(ZD d.Ld (-1) 100000&&(ZD d.From 0 100000&&((Zu (afS s i d.After.l) 0 d.After.l&&ZPi d)&&(bif Z3 d.Veil emp then ZOV s d else ZOL d))))
def ZUT(s:Sta)(i:Nat)(d:Gc):ZOM s i d=Vr s i d:=by
 unfold ZOM Vr Hg QM UC;rw[ZUR,ZUS,ZUO];unfold ZOV;generalize(((!(exD d==(d.Why==0)))||(exD d&&decide (Yf d>0)))||(!exD d&&!He d))=b;cases ZD d.bh 0 63<;>cases ZD d.Ld (-1) 100000<;>cases ZD d.From 0 100000<;>cases K8 s i d<;>cases Jq d.After.l<;>cases b<;>cases Z3 d.Veil emp<;>simp[ZZ0]
def twD(a b:Gc):Bool:=Z3 a.Veil emp&&(Z3 b.Veil emp&&((a.Ld==-1)&&((b.Ld==-1)&&(Z3 a.Ev b.Ev&&QL a.An b.An))))
def ZOW(l:List Gc)(i:Nat)(x:Gc):Bool:=(l.take i).all (λy=>!twD x y)
def ZS7(s:Sta)(hs:StS s)(i:Nat)(x:Gc)(hx:s.Bc[i]?=some x):∃fr',Zg rE [1,3,4] c50L0b [(1,stI s),(3,I i),(4,.int .i64 0)] [] =
 some (if ZOW s.Bc i x=true then .exit 2 else .ret,fr',[])/\
 (ZOW s.Bc i x=true->get fr' 1=stI s/\get fr' 3=I i)/\(ZOW s.Bc i x=false->get fr' 2=.bool false):=by
 have hgx:=Z6 (f:=Gc.enc) hx;have hli:=Z7 hx;have hl:=hs.doors;rw[show Gc.enc x=Zo x from rfl]at hgx
 have L:=QT (E:=rE) (live:=[1,3,4]) (b:=c50L0b) (h:=[]) (s.Bc.take i) (λ_ y=>!twD x y) (λj=>[(1,stI s),(3,I i),(4,I j)]) 2
  (λfr=>get fr 1=stI s/\get fr 3=I i) (λfr=>get fr 2=.bool false) (λk=>rfl)
  (λj y hy hP=>by
   obtain⟨hy',hk⟩:=HH hy;have hgy:=Z6 (f:=Gc.enc) hy';rw[show Gc.enc y=Zo y from rfl]at hgy
   have hlt:=Zh hk;have hw:=Zx (n:=j)<|by omega
   have hP':twD x y=false:=by simpa using hP
   unfold twD at hP';have hh:(x.An.N==y.An.N&&(Z3 x.An.bm y.An.bm&&(x.An.Num==y.An.Num&&x.An.Den==y.An.Den)))=QL x.An y.An:=rfl;unfold Zo at hgx hgy;cases c1:Z3 x.Veil emp with
   |false=>
    refine⟨_,by simp only[go_sem,c50L0b,hgx,hgy,hlt,hw,c1];rfl,?_⟩
    simp only[go_sem]
   |true=>
   cases c2:Z3 y.Veil emp with
   |false=>
    refine⟨_,by simp only[go_sem,c50L0b,hgx,hgy,hlt,hw,c1,c2];rfl,?_⟩
    simp only[go_sem]
   |true=>
   cases c5003:(x.Ld==-1)with
   |false=>
    refine⟨_,by simp only[go_sem,c50L0b,hgx,hgy,hlt,hw,c1,c2,c5003];rfl,?_⟩
    simp only[go_sem]
   |true=>
   cases c5004:(y.Ld==-1)with
   |false=>
    refine⟨_,by simp only[go_sem,c50L0b,hgx,hgy,hlt,hw,c1,c2,c5003,c5004];rfl,?_⟩
    simp only[go_sem]
   |true=>
   cases c5005:Z3 x.Ev y.Ev with
   |false=>
    refine⟨_,by simp only[go_sem,c50L0b,hgx,hgy,hlt,hw,c1,c2,c5003,c5004,c5005];rfl,?_⟩
    simp only[go_sem]
   |true=>
    rw[c1,c2,c5003,c5004,c5005,ZWp,ZWp,ZWp,ZWp,ZWp]at hP';refine⟨_,by simp only[go_sem,c50L0b,hgx,hgy,hlt,hw,c1,c2,c5003,c5004,c5005,hh,hP'];rfl,?_⟩
    simp only[go_sem])
  (λj y hy hP=>by
   obtain⟨hy',hk⟩:=HH hy;have hgy:=Z6 (f:=Gc.enc) hy';rw[show Gc.enc y=Zo y from rfl]at hgy
   have hlt:=Zh hk;have hP':twD x y=true:=by simpa using hP
   unfold twD at hP';simp only[ZWn]at hP';obtain⟨c1,c2,c5003,c5004,c5005,c5006⟩:=hP';have hh:(x.An.N==y.An.N&&(Z3 x.An.bm y.An.bm&&(x.An.Num==y.An.Num&&x.An.Den==y.An.Den)))=QL x.An y.An:=rfl;unfold Zo at hgx hgy;refine⟨_,by simp only[go_sem,c50L0b,hgx,hgy,hlt,c1,c2,c5003,c5004,c5005,hh,c5006];rfl,?_⟩
   simp only[go_sem])
  (by
   have e:(s.Bc.take i).length=i:=by rw[ZWT];omega
   rw[e];exact⟨_,by simp only[go_sem,c50L0b,ZG];rfl,by simp only[go_sem],by simp only[go_sem]⟩)
 rw[QE]at L;exact L
def ZUU(s:Sta)(hs:StS s):pfn rE 50 [stA s]=some (.bool<|Zu (ZOW s.Bc) 0 s.Bc):=by
 have hl:=hs.doors;have L:=Uf (E:=rE) (live:=[1,3]) (b:=c50L1b) (h:=[]) s.Bc (ZOW s.Bc) (λi=>[(1,stI s),(3,I i)]) 0 (λfr=>get fr 2=.bool false) (λk=>rfl)
  (λi x hx hP=>by
   have hlt:=Zh<|Z7 hx;have hw:=Zx (n:=i) (by have:=Z7 hx;omega)
   obtain⟨fr',h1,h2,_⟩:=ZS7 s hs i x hx;rw[hP]at h1;obtain⟨g1,g3⟩:=h2 hP;refine⟨_,by simp only[go_sem,c50L1b,c50L0,hlt,hw,h1,g1,g3,ZWm,if_true];rfl,?_⟩
   simp only[go_sem])
  (λi x hx hP=>by
   have hlt:=Zh<|Z7 hx;obtain⟨fr',h1,_,h2⟩:=ZS7 s hs i x hx;rw[hP]at h1;refine⟨_,by simp only[go_sem,c50L1b,c50L0,hlt,h1,ZWm,ZWt,if_false];rfl,?_⟩
   simp only[go_sem,h2 hP])
  (⟨_,by simp only[go_sem,c50L1b,ZG,ZWm];rfl⟩)
 obtain⟨fr',h1,h2⟩:=L;have h1':Zg rE [1,3] c50L1b [(1,stI s),(3,.int .i64 0)] []=_:=h1;rw[Z5 (f:=50) rfl rfl];cases hc:Zu (ZOW s.Bc) 0 s.Bc with
 |false=>rw[hc]at h1';simp only[go_sem,c50,c50L1,h1',h2 hc,ZWt]
 |true=>rw[hc]at h1';simp only[go_sem,c50,c50L1,h1']
def ZUV(l:List Gc)(a:Adr)(hr:∀x y,XK x y=true↔x=y):∀K:List Adr,(l.foldl Hd K).any (XK a)=(K.any (XK a)||l.any (λy=>!Jr y&&XK a (WI y))):=by
 induction l with
 |nil=>intro K;simp
 |cons x r ih=>
  intro K;rw[ZXd,ih,ZXq,<-ZZ9];congr 1;unfold Hd;cases hs:Jr x with
  |true=>simp
  |false=>
   rw[cond_false];unfold Qi;cases hk:K.any (XK<|WI x)with
   |true=>
    rw[cond_true];cases he:XK a (WI x)with
    |false=>simp
    |true=>rw[(hr _ _).1 he,hk];simp
   |false=>rw[cond_false,List.any_append];simp
def Zil(x y:Adr):XK x y=true↔x=y:=by
 unfold XK;cases x with|mk s n=>cases n with|mk a b c d=>cases y with|mk s' n'=>cases n' with|mk a' b' c' d'=>
 simp only[ZWn,beq_iff_eq,Ky,Adr.mk.injEq,HN.mk.injEq]
def ZUW(l:List Gc):Zu (ZOW l) 0 l=Wh l:=by
 unfold Wh;apply ZP3;intro i x;unfold ZOW Y9;rw[ZUV _ _ Zil,ZXH,ZWB,<-ZPg];have e:∀y,twD x y=(!Jr x&&(!Jr y&&XK (WI x) (WI y))):=λy=>by
  unfold twD Jr XK WI QL;simp only[bne,Bool.not_or,ZYO];cases Z3 x.Veil emp<;>cases Z3 y.Veil emp<;>cases(x.Ld==-1)<;>cases(y.Ld==-1)<;>rfl
 have e2:(l.take i).any (twD x)=(l.take i).any (λy=>!Jr x&&(!Jr y&&XK (WI x) (WI y))):=by
  congr 1;funext y;exact e y
 rw[e2];cases Jr x with
 |true=>simp
 |false=>simp
def ZUX(s:Sta)(K:List Str)(hl:s.Ga.length<=1000)(hK:K.length<=10000):∃fr',Zg rE [1,3,4] c48L0b [(1,stI s),(3,.sl 0 K.length 0 K.length false),(4,.int .i64 0)] [.row 1<|K.map encS] =
 some (.exit 0,fr',[.row 1 ((K++s.Ga.map (·.Id)).map encS)])/\get fr' 1=stI s/\get fr' 3=.sl 0 (K.length+s.Ga.length) 0 (K.length+s.Ga.length) false:=by
 have hbS:∀n(K:List Str),Zd n (K.map encS)=true:=λn K=>ZN _<|Zw (λt=>rfl) K
 have L:=Y8 (E:=rE) (live:=[1,3,4]) (b:=c48L0b) s.Ga.length (λi=>[(1,stI s),(3,.sl 0 (K.length+i) 0 (K.length+i) false),(4,I i)])
  (λi=>[.row 1 ((K++(s.Ga.take i).map (·.Id)).map encS)]) (λi=>rfl)
  (λi hi=>by
   obtain⟨x,hx⟩:∃x,s.Ga[i]?=some x:=⟨_,ZWu hi⟩;have hg:=Z6 (f:=Gm.enc) hx;have hi':=Zh hi;have hw:=Zx (n:=i)<|by omega
   have ht:=YW (λx:Gm=>x.Id) hx
   have hn:(K++(s.Ga.take i).map (·.Id)).length=K.length+i:=by rw[ZWz,ZWm,take_len hx]
   have e1:(K++(s.Ga.take<|i+1).map (·.Id)).map encS=(K++(s.Ga.take i).map (·.Id)).map encS++[.str x.Id]:=by
    rw[ht,<-ZWW,ZWM];rfl
   rw[e1];generalize K++(s.Ga.take i).map (·.Id)=KS at hn⊢;rw[<-hn,<-ZXk,<-hn];have ha:=λq=>XC (h:=[.row 1<|KS.map encS,q]) (fz:=false) (b:=0) (g:=KS.length) (sz:=1) (es:=KS.map encS) (bw:=false) (ex:=false) (ys:=[.str x.Id]) (bytes:=16) (by simp[rowAt]) rfl (by rfl) (by omega) (by omega) (by simp;omega)
   have hb:=XC (h:=[.row 1<|KS.map encS]) (fz:=false) (b:=0) (g:=KS.length) (sz:=1) (es:=KS.map encS) (bw:=false) (ex:=false) (ys:=[.str x.Id]) (bytes:=16) (by simp[rowAt]) rfl (by rfl) (by omega) (by omega) (by simp;omega)
   refine⟨_,by simp only[go_sem,c48L0b,hg,hi',hw,Gm.enc,NL.enc,ha,hb,beq_self_eq_true,hbS,ZWm];rfl,?_⟩
   simp only[go_sem])
  (e:=.exit 0) (by simp only[go_sem,c48L0b,ZG,ZWR,ZWm];rfl) (by simp)
 have e0:K++(s.Ga.take 0).map (λx:Gm=>x.Id)=K:=by simp
 rw[e0]at L;refine⟨_,L,?_,?_⟩<;>simp only[go_sem]
def ZUY(s:Sta)(K:List Str)(hl:s.Gr.length<=1000)(hK:K.length<=10000):∃fr',Zg rE [1,3,5] c48L1b [(1,stI s),(3,.sl 0 K.length 0 K.length false),(5,.int .i64 0)] [.row 1<|K.map encS] =
 some (.exit 2,fr',[.row 1 ((K++s.Gr.map (·.Id)).map encS)])/\get fr' 1=stI s/\get fr' 3=.sl 0 (K.length+s.Gr.length) 0 (K.length+s.Gr.length) false:=by
 have hbS:∀n(K:List Str),Zd n (K.map encS)=true:=λn K=>ZN _<|Zw (λt=>rfl) K
 have L:=Y8 (E:=rE) (live:=[1,3,5]) (b:=c48L1b) s.Gr.length (λi=>[(1,stI s),(3,.sl 0 (K.length+i) 0 (K.length+i) false),(5,I i)])
  (λi=>[.row 1 ((K++(s.Gr.take i).map (·.Id)).map encS)]) (λi=>rfl)
  (λi hi=>by
   obtain⟨x,hx⟩:∃x,s.Gr[i]?=some x:=⟨_,ZWu hi⟩;have hg:=Z6 (f:=Ev.enc) hx;have hi':=Zh hi;have hw:=Zx (n:=i)<|by omega
   have ht:=YW (λx:Ev=>x.Id) hx
   have hn:(K++(s.Gr.take i).map (·.Id)).length=K.length+i:=by rw[ZWz,ZWm,take_len hx]
   have e1:(K++(s.Gr.take<|i+1).map (·.Id)).map encS=(K++(s.Gr.take i).map (·.Id)).map encS++[.str x.Id]:=by
    rw[ht,<-ZWW,ZWM];rfl
   rw[e1];generalize K++(s.Gr.take i).map (·.Id)=KS at hn⊢;rw[<-hn,<-ZXk,<-hn];have ha:=λq=>XC (h:=[.row 1<|KS.map encS,q]) (fz:=false) (b:=0) (g:=KS.length) (sz:=1) (es:=KS.map encS) (bw:=false) (ex:=false) (ys:=[.str x.Id]) (bytes:=16) (by simp[rowAt]) rfl (by rfl) (by omega) (by omega) (by simp;omega)
   have hb:=XC (h:=[.row 1<|KS.map encS]) (fz:=false) (b:=0) (g:=KS.length) (sz:=1) (es:=KS.map encS) (bw:=false) (ex:=false) (ys:=[.str x.Id]) (bytes:=16) (by simp[rowAt]) rfl (by rfl) (by omega) (by omega) (by simp;omega)
   refine⟨_,by simp only[go_sem,c48L1b,hg,hi',hw,Ev.enc,NL.enc,ha,hb,beq_self_eq_true,hbS,ZWm];rfl,?_⟩
   simp only[go_sem])
  (e:=.exit 2) (by simp only[go_sem,c48L1b,ZG,ZWR,ZWm];rfl) (by simp)
 have e0:K++(s.Gr.take 0).map (λx:Ev=>x.Id)=K:=by simp
 rw[e0]at L;refine⟨_,L,?_,?_⟩<;>simp only[go_sem]
def ZUZ(s:Sta)(K:List Str)(hl:s.By.length<=1000)(hK:K.length<=10000):∃fr',Zg rE [1,3,6] c48L2b [(1,stI s),(3,.sl 0 K.length 0 K.length false),(6,.int .i64 0)] [.row 1<|K.map encS] =
 some (.exit 4,fr',[.row 1 ((K++s.By.map (·.Id)).map encS)])/\get fr' 1=stI s/\get fr' 3=.sl 0 (K.length+s.By.length) 0 (K.length+s.By.length) false:=by
 have hbS:∀n(K:List Str),Zd n (K.map encS)=true:=λn K=>ZN _<|Zw (λt=>rfl) K
 have L:=Y8 (E:=rE) (live:=[1,3,6]) (b:=c48L2b) s.By.length (λi=>[(1,stI s),(3,.sl 0 (K.length+i) 0 (K.length+i) false),(6,I i)])
  (λi=>[.row 1 ((K++(s.By.take i).map (·.Id)).map encS)]) (λi=>rfl)
  (λi hi=>by
   obtain⟨x,hx⟩:∃x,s.By[i]?=some x:=⟨_,ZWu hi⟩;have hg:=Z6 (f:=Fa.enc) hx;have hi':=Zh hi;have hw:=Zx (n:=i)<|by omega
   have ht:=YW (λx:Fa=>x.Id) hx
   have hn:(K++(s.By.take i).map (·.Id)).length=K.length+i:=by rw[ZWz,ZWm,take_len hx]
   have e1:(K++(s.By.take<|i+1).map (·.Id)).map encS=(K++(s.By.take i).map (·.Id)).map encS++[.str x.Id]:=by
    rw[ht,<-ZWW,ZWM];rfl
   rw[e1];generalize K++(s.By.take i).map (·.Id)=KS at hn⊢;rw[<-hn,<-ZXk,<-hn];have ha:=λq=>XC (h:=[.row 1<|KS.map encS,q]) (fz:=false) (b:=0) (g:=KS.length) (sz:=1) (es:=KS.map encS) (bw:=false) (ex:=false) (ys:=[.str x.Id]) (bytes:=16) (by simp[rowAt]) rfl (by rfl) (by omega) (by omega) (by simp;omega)
   have hb:=XC (h:=[.row 1<|KS.map encS]) (fz:=false) (b:=0) (g:=KS.length) (sz:=1) (es:=KS.map encS) (bw:=false) (ex:=false) (ys:=[.str x.Id]) (bytes:=16) (by simp[rowAt]) rfl (by rfl) (by omega) (by omega) (by simp;omega)
   refine⟨_,by simp only[go_sem,c48L2b,hg,hi',hw,Fa.enc,NL.enc,ha,hb,beq_self_eq_true,hbS,ZWm];rfl,?_⟩
   simp only[go_sem])
  (e:=.exit 4) (by simp only[go_sem,c48L2b,ZG,ZWR,ZWm];rfl) (by simp)
 have e0:K++(s.By.take 0).map (λx:Fa=>x.Id)=K:=by simp
 rw[e0]at L;refine⟨_,L,?_,?_⟩<;>simp only[go_sem]
def ZV0(s:Sta)(K:List Str)(hl:s.Bc.length<=1000)(hK:K.length<=10000):∃fr',Zg rE [1,3,7] c48L3b [(1,stI s),(3,.sl 0 K.length 0 K.length false),(7,.int .i64 0)] [.row 1<|K.map encS] =
 some (.exit 6,fr',[.row 1 ((K++s.Bc.map (·.Id)).map encS)])/\get fr' 1=stI s/\get fr' 3=.sl 0 (K.length+s.Bc.length) 0 (K.length+s.Bc.length) false:=by
 have hbS:∀n(K:List Str),Zd n (K.map encS)=true:=λn K=>ZN _<|Zw (λt=>rfl) K
 have L:=Y8 (E:=rE) (live:=[1,3,7]) (b:=c48L3b) s.Bc.length (λi=>[(1,stI s),(3,.sl 0 (K.length+i) 0 (K.length+i) false),(7,I i)])
  (λi=>[.row 1 ((K++(s.Bc.take i).map (·.Id)).map encS)]) (λi=>rfl)
  (λi hi=>by
   obtain⟨x,hx⟩:∃x,s.Bc[i]?=some x:=⟨_,ZWu hi⟩;have hg:=Z6 (f:=Gc.enc) hx;have hi':=Zh hi;have hw:=Zx (n:=i)<|by omega
   have ht:=YW (λx:Gc=>x.Id) hx
   have hn:(K++(s.Bc.take i).map (·.Id)).length=K.length+i:=by rw[ZWz,ZWm,take_len hx]
   have e1:(K++(s.Bc.take<|i+1).map (·.Id)).map encS=(K++(s.Bc.take i).map (·.Id)).map encS++[.str x.Id]:=by
    rw[ht,<-ZWW,ZWM];rfl
   rw[e1];generalize K++(s.Bc.take i).map (·.Id)=KS at hn⊢;rw[<-hn,<-ZXk,<-hn];have ha:=λq=>XC (h:=[.row 1<|KS.map encS,q]) (fz:=false) (b:=0) (g:=KS.length) (sz:=1) (es:=KS.map encS) (bw:=false) (ex:=false) (ys:=[.str x.Id]) (bytes:=16) (by simp[rowAt]) rfl (by rfl) (by omega) (by omega) (by simp;omega)
   have hb:=XC (h:=[.row 1<|KS.map encS]) (fz:=false) (b:=0) (g:=KS.length) (sz:=1) (es:=KS.map encS) (bw:=false) (ex:=false) (ys:=[.str x.Id]) (bytes:=16) (by simp[rowAt]) rfl (by rfl) (by omega) (by omega) (by simp;omega)
   refine⟨_,by simp only[go_sem,c48L3b,hg,hi',hw,Gc.enc,NL.enc,ha,hb,beq_self_eq_true,hbS,ZWm];rfl,?_⟩
   simp only[go_sem])
  (e:=.exit 6) (by simp only[go_sem,c48L3b,ZG,ZWR,ZWm];rfl) (by simp)
 have e0:K++(s.Bc.take 0).map (λx:Gc=>x.Id)=K:=by simp
 rw[e0]at L;refine⟨_,L,?_,?_⟩<;>simp only[go_sem]
def ZV1(s:Sta)(K:List Str)(hl:s.Nk.length<=1000)(hK:K.length<=10000):∃fr',Zg rE [1,3,8] c48L4b [(1,stI s),(3,.sl 0 K.length 0 K.length false),(8,.int .i64 0)] [.row 1<|K.map encS] =
 some (.exit 8,fr',[.row 1 ((K++s.Nk.map (·.Id)).map encS)])/\get fr' 1=stI s/\get fr' 3=.sl 0 (K.length+s.Nk.length) 0 (K.length+s.Nk.length) false:=by
 have hbS:∀n(K:List Str),Zd n (K.map encS)=true:=λn K=>ZN _<|Zw (λt=>rfl) K
 have L:=Y8 (E:=rE) (live:=[1,3,8]) (b:=c48L4b) s.Nk.length (λi=>[(1,stI s),(3,.sl 0 (K.length+i) 0 (K.length+i) false),(8,I i)])
  (λi=>[.row 1 ((K++(s.Nk.take i).map (·.Id)).map encS)]) (λi=>rfl)
  (λi hi=>by
   obtain⟨x,hx⟩:∃x,s.Nk[i]?=some x:=⟨_,ZWu hi⟩;have hg:=Z6 (f:=be.enc) hx;have hi':=Zh hi;have hw:=Zx (n:=i)<|by omega
   have ht:=YW (λx:be=>x.Id) hx
   have hn:(K++(s.Nk.take i).map (·.Id)).length=K.length+i:=by rw[ZWz,ZWm,take_len hx]
   have e1:(K++(s.Nk.take<|i+1).map (·.Id)).map encS=(K++(s.Nk.take i).map (·.Id)).map encS++[.str x.Id]:=by
    rw[ht,<-ZWW,ZWM];rfl
   rw[e1];generalize K++(s.Nk.take i).map (·.Id)=KS at hn⊢;rw[<-hn,<-ZXk,<-hn];have ha:=λq=>XC (h:=[.row 1<|KS.map encS,q]) (fz:=false) (b:=0) (g:=KS.length) (sz:=1) (es:=KS.map encS) (bw:=false) (ex:=false) (ys:=[.str x.Id]) (bytes:=16) (by simp[rowAt]) rfl (by rfl) (by omega) (by omega) (by simp;omega)
   have hb:=XC (h:=[.row 1<|KS.map encS]) (fz:=false) (b:=0) (g:=KS.length) (sz:=1) (es:=KS.map encS) (bw:=false) (ex:=false) (ys:=[.str x.Id]) (bytes:=16) (by simp[rowAt]) rfl (by rfl) (by omega) (by omega) (by simp;omega)
   refine⟨_,by simp only[go_sem,c48L4b,hg,hi',hw,be.enc,NL.enc,ha,hb,beq_self_eq_true,hbS,ZWm];rfl,?_⟩
   simp only[go_sem])
  (e:=.exit 8) (by simp only[go_sem,c48L4b,ZG,ZWR,ZWm];rfl) (by simp)
 have e0:K++(s.Nk.take 0).map (λx:be=>x.Id)=K:=by simp
 rw[e0]at L;refine⟨_,L,?_,?_⟩<;>simp only[go_sem]
def uqB(l:List Str)(i:Nat)(x:Str):Bool:=(l.take i).all (λy=>!Z3 x y)
def ZS8(l:List Str)(hl:l.length<=100000)(i:Nat)(x:Str)(hx:l[i]?=some x):∃fr',Zg rE [3,9,10] c48L5b [(3,.sl 0 l.length 0 l.length false),(9,I i),(10,.int .i64 0)] [.row 1<|l.map encS] =
 some (if uqB l i x=true then .exit 12 else .ret,fr',[.row 1<|l.map encS])/\
 (uqB l i x=true->get fr' 3=.sl 0 l.length 0 l.length false/\get fr' 9=I i)/\(uqB l i x=false->get fr' 2=.bool false):=by
 have hgx:=Z6 (f:=encS) hx;have hli:=Z7 hx;have hb1:=Zh hli;have hbS:∀n(K:List Str),Zd n (K.map encS)=true:=λn K=>ZN _<|Zw (λt=>rfl) K
 have L:=QT (E:=rE) (live:=[3,9,10]) (b:=c48L5b) (h:=[.row 1<|l.map encS]) (l.take i) (λ_ y=>!Z3 x y) (λk=>[(3,.sl 0 l.length 0 l.length false),(9,I i),(10,I k)]) 12
  (λfr=>get fr 3=.sl 0 l.length 0 l.length false/\get fr 9=I i) (λfr=>get fr 2=.bool false) (λk=>rfl)
  (λk y hy hP=>by
   obtain⟨hy',hk⟩:=HH hy;have hgy:=Z6 (f:=encS) hy';have hlt:=Zh hk;have hlk:=Zh<|Z7 hy';have hw:=Zx (n:=k)<|by omega
   have hP':Z3 x y=false:=by simpa using hP
   have hkl:=Z7 hy';have z1:=λes=>VT 0 l.length 0 1 (i:Int) l.length es ⟨by omega,by omega⟩
   have z2:=λes=>VT 0 l.length 0 1 (k:Int) l.length es ⟨by omega,by omega⟩
   have n1:((i:Int)).toNat=i:=rfl;have n2:((k:Int)).toNat=k:=rfl;refine⟨_,by simp only[go_sem,c48L5b,hgx,hgy,hlt,hw,z1,z2,n1,n2,if_true,hbS,beq_self_eq_true,encS,hP',ZWD,ZX1];rfl,?_⟩
   simp only[go_sem])
  (λk y hy hP=>by
   obtain⟨hy',hk⟩:=HH hy;have hgy:=Z6 (f:=encS) hy';have hlt:=Zh hk;have hP':Z3 x y=true:=by simpa using hP
   have hkl:=Z7 hy';have z1:=λes=>VT 0 l.length 0 1 (i:Int) l.length es ⟨by omega,by omega⟩
   have z2:=λes=>VT 0 l.length 0 1 (k:Int) l.length es ⟨by omega,by omega⟩
   have n1:((i:Int)).toNat=i:=rfl;have n2:((k:Int)).toNat=k:=rfl;refine⟨_,by simp only[go_sem,c48L5b,hgx,hgy,hlt,z1,z2,n1,n2,if_true,hbS,beq_self_eq_true,encS,hP',ZWD,ZX1];rfl,?_⟩
   simp only[go_sem])
  (by
   have e:(l.take i).length=i:=by rw[ZWT];omega
   rw[e];exact⟨_,by simp only[go_sem,c48L5b,ZG,hbS,beq_self_eq_true];rfl,by simp only[go_sem],by simp only[go_sem]⟩)
 rw[QE]at L;exact L
def ZV2(l:List Str)(hl:l.length<=100000):∃fr',Zg rE [3,9] c48L6b [(3,.sl 0 l.length 0 l.length false),(9,.int .i64 0)] [.row 1<|l.map encS] =
 some (if Zu (uqB l) 0 l=true then .exit 10 else .ret,fr',[.row 1<|l.map encS])/\(Zu (uqB l) 0 l=false->get fr' 2=.bool false):=by
 have hbS:∀n(K:List Str),Zd n (K.map encS)=true:=λn K=>ZN _<|Zw (λt=>rfl) K
 exact Uf (E:=rE) (live:=[3,9]) (b:=c48L6b) (h:=[.row 1<|l.map encS]) l (uqB l) (λi=>[(3,.sl 0 l.length 0 l.length false),(9,I i)]) 10 (λfr=>get fr 2=.bool false) (λk=>rfl)
  (λi x hx hP=>by
   have hlt:=Zh<|Z7 hx;have hw:=Zx (n:=i) (by have:=Z7 hx;omega)
   obtain⟨fr',h1,h2,_⟩:=ZS8 l hl i x hx;rw[hP]at h1;obtain⟨g3,g9⟩:=h2 hP;refine⟨_,by simp only[go_sem,c48L6b,c48L5,hlt,hw,h1,g3,g9,hbS,beq_self_eq_true,if_true];rfl,?_⟩
   simp only[go_sem])
  (λi x hx hP=>by
   have hlt:=Zh<|Z7 hx;obtain⟨fr',h1,_,h2⟩:=ZS8 l hl i x hx;rw[hP]at h1;refine⟨_,by simp only[go_sem,c48L6b,c48L5,hlt,h1,hbS,beq_self_eq_true,ZWt,if_false];rfl,?_⟩
   simp only[go_sem,h2 hP])
  (⟨_,by simp only[go_sem,c48L6b,ZG,hbS,beq_self_eq_true];rfl⟩)
def ZV3(l:List Str):Zu (uqB l) 0 l=Jq l:=by
 rw[<-ZS6,ZPQ];apply ZP3;intro i x;unfold uqB;rw[ZPg]
def ZV4(s:Sta)(hs:StS s):pfn rE 48 [stA s]=some (.bool<|Jq<|Qp s):=by
 have hbS:∀n(K:List Str),Zd n (K.map encS)=true:=λn K=>ZN _<|Zw (λt=>rfl) K
 have h0:=hs.regions;have h1:=hs.streets;have h2:=hs.buildings;have h3:=hs.doors;have h4:=hs.units;obtain⟨f0,L0,a0,b0⟩:=ZUX s [] h0<|by simp
 obtain⟨f1,L1,a1,b1⟩:=ZUY s (s.Ga.map (·.Id)) h1<|by simp;omega
 obtain⟨f2,L2,a2,b2⟩:=ZUZ s (s.Ga.map (·.Id)++s.Gr.map (·.Id)) h2<|by simp;omega
 obtain⟨f3,L3,a3,b3⟩:=ZV0 s (s.Ga.map (·.Id)++s.Gr.map (·.Id)++s.By.map (·.Id)) h3<|by simp;omega
 obtain⟨f4,L4,a4,b4⟩:=ZV1 s (s.Ga.map (·.Id)++s.Gr.map (·.Id)++s.By.map (·.Id)++s.Bc.map (·.Id)) h4<|by simp;omega
 have e:s.Ga.map (·.Id)++s.Gr.map (·.Id)++s.By.map (·.Id)++s.Bc.map (·.Id)++s.Nk.map (·.Id)=Qp s:=by unfold Qp;simp only[ZWW]
 rw[ZWZ]at L0;rw[e]at L4;simp only[ZWz,ZWm,ZWQ,ZWD,ZX6]at L0 L1 L2 L3 L4 b0 b1 b2 b3 b4;have hlen:(Qp s).length=s.Ga.length+s.Gr.length+s.By.length+s.Bc.length+s.Nk.length:=by
  rw[<-e];simp only[ZWz,ZWm]
 obtain⟨f6,L6,c5006⟩:=ZV2 (Qp s)<|by omega
 rw[hlen]at L6;rw[Z5 (f:=48) rfl rfl,<-ZV3];cases hc:Zu (uqB<|Qp s) 0 (Qp s)with
 |false=>rw[hc]at L6;simp only[go_sem,c48,c48L0,c48L1,c48L2,c48L3,c48L4,c48L6,L0,a0,b0,L1,a1,b1,L2,a2,b2,L3,a3,b3,L4,a4,b4,hbS,beq_self_eq_true,L6,c5006 hc,ZWt,if_false]
 |true=>rw[hc]at L6;simp only[go_sem,c48,c48L0,c48L1,c48L2,c48L3,c48L4,c48L6,L0,a0,b0,L1,a1,b1,L2,a2,b2,L3,a3,b3,L4,a4,b4,hbS,beq_self_eq_true,L6,if_true]
def pOk(p:bf):Bool:=ZD p.a 0 63&&(ZD p.b 0 63&&!(p.a==p.b))
def ZV5(s:Sta)(hs:StS s):∃fr',Zg rE [1,3] c49L0b [(1,stI s),(3,.int .i64 0)] []=some (if s.Wk.all pOk=true then .exit 0 else .ret,fr',[])/\
 (s.Wk.all pOk=true->get fr' 1=stI s)/\(s.Wk.all pOk=false->get fr' 2=.bool false):=by
 have hl:=hs.rulings;have n1:((1:Int)).toNat=1:=rfl;have n0:((0:Int)).toNat=0:=rfl;have L:=QT (E:=rE) (live:=[1,3]) (b:=c49L0b) (h:=[]) s.Wk (λ_ p=>pOk p) (λi=>[(1,stI s),(3,I i)]) 0 (λfr=>get fr 1=stI s) (λfr=>get fr 2=.bool false) (λk=>rfl)
  (λi x hx hP=>by
   have hg:=Z6 (f:=bf.enc) hx;have hlt:=Zh<|Z7 hx;have hw:=Zx (n:=i) (by have:=Z7 hx;omega)
   unfold pOk at hP;simp only[ZWn,ZWG]at hP;obtain⟨p1,p2,p3⟩:=hP;have r1:=ZOg x.a;have r2:=ZOg x.b;refine⟨_,by simp only[go_sem,c49L0b,hg,hlt,hw,bf.enc,WJ,XL,n0,n1,if_true,r1,r2,p1,p2,p3,ZWm,ZWo];rfl,?_⟩
   simp only[go_sem])
  (λi x hx hP=>by
   have hg:=Z6 (f:=bf.enc) hx;have hlt:=Zh<|Z7 hx;unfold pOk at hP;have r1:=ZOg x.a;have r2:=ZOg x.b;cases p1:ZD x.a 0 63 with
   |false=>
    refine⟨_,by simp only[go_sem,c49L0b,hg,hlt,bf.enc,WJ,XL,n0,n1,if_true,r1,p1,ZWm,ZWq];rfl,?_⟩
    simp only[go_sem]
   |true=>
   cases p2:ZD x.b 0 63 with
   |false=>
    refine⟨_,by simp only[go_sem,c49L0b,hg,hlt,bf.enc,WJ,XL,n0,n1,if_true,r1,r2,p1,p2,ZWm,ZWq,ZWo];rfl,?_⟩
    simp only[go_sem]
   |true=>
    rw[p1,p2,ZWp,ZWp,ZXK]at hP;refine⟨_,by simp only[go_sem,c49L0b,hg,hlt,bf.enc,WJ,XL,n0,n1,if_true,r1,r2,p1,p2,hP,ZWm,ZWo];rfl,?_⟩
    simp only[go_sem])
  (⟨_,by simp only[go_sem,c49L0b,ZG,ZWm];rfl,by simp only[go_sem]⟩)
 rw[QE]at L;exact L
def mgS(l:List bf)(i:Nat)(x:bf):Bool:=(l.take i).all (λq=>!(q.b==x.b))
def ZS9(s:Sta)(hs:StS s)(i:Nat)(x:bf)(hx:s.Gk[i]?=some x):∃fr',Zg rE [1,5,6,7] c49L1b [(1,stI s),(5,I i),(6,.ptr 0 0 0 1),(7,.int .i64 0)] [.row 2 [.agg [I x.a,I x.b]]] =
 some (if mgS s.Gk i x=true then .exit 4 else .ret,fr',[.row 2 [.agg [I x.a,I x.b]]])/\
 (mgS s.Gk i x=true->get fr' 1=stI s/\get fr' 5=I i)/\(mgS s.Gk i x=false->get fr' 1=stI s/\get fr' 5=I i/\get fr' 2=.bool false):=by
 have hl:=hs.merged;have hli:=Z7 hx;have n1:((1:Int)).toNat=1:=rfl;have L:=QT (E:=rE) (live:=[1,5,6,7]) (b:=c49L1b) (h:=[.row 2 [.agg [I x.a,I x.b]]]) (s.Gk.take i) (λ_ q=>!(q.b==x.b)) (λk=>[(1,stI s),(5,I i),(6,.ptr 0 0 0 1),(7,I k)]) 4 (λfr=>get fr 1=stI s/\get fr 5=I i) (λfr=>get fr 1=stI s/\get fr 5=I i/\get fr 2=.bool false) (λk=>rfl)
  (λk y hy hP=>by
   obtain⟨hy',hk⟩:=HH hy;have hgy:=Z6 (f:=bf.enc) hy';have hlt:=Zh hk;have hw:=Zx (n:=k)<|by omega
   have hP':(y.b==x.b)=false:=by simpa using hP
   refine⟨_,by simp only[go_sem,c49L1b,hgy,hlt,hw,bf.enc,XL,n1,if_true,hP'];rfl,?_⟩
   simp only[go_sem])
  (λk y hy hP=>by
   obtain⟨hy',hk⟩:=HH hy;have hgy:=Z6 (f:=bf.enc) hy';have hlt:=Zh hk;have hP':(y.b==x.b)=true:=by simpa using hP
   refine⟨_,by simp only[go_sem,c49L1b,hgy,hlt,bf.enc,XL,n1,if_true,hP'];rfl,?_⟩
   refine⟨?_,?_,?_⟩<;>simp only[go_sem])
  (by
   have e:(s.Gk.take i).length=i:=by rw[ZWT];omega
   rw[e];exact⟨_,by simp only[go_sem,c49L1b,ZG];rfl,by simp only[go_sem],by simp only[go_sem]⟩)
 rw[QE]at L;exact L
def mgB(l:List bf)(i:Nat)(x:bf):Bool:=pOk x&&mgS l i x
def ZV6(s:Sta)(hs:StS s):∃fr',Zg rE [1,5] c49L2b [(1,stI s),(5,.int .i64 0)] []=some (if Zu (mgB s.Gk) 0 s.Gk=true then .exit 2 else .ret,fr',[])/\
 (Zu (mgB s.Gk) 0 s.Gk=true->get fr' 1=stI s)/\(Zu (mgB s.Gk) 0 s.Gk=false->get fr' 2=.bool false):=by
 have hl:=hs.merged;have n1:((1:Int)).toNat=1:=rfl;have n0:((0:Int)).toNat=0:=rfl;exact QT (E:=rE) (live:=[1,5]) (b:=c49L2b) (h:=[]) s.Gk (mgB s.Gk) (λi=>[(1,stI s),(5,I i)]) 2 (λfr=>get fr 1=stI s) (λfr=>get fr 2=.bool false) (λk=>rfl)
  (λi x hx hP=>by
   have hg:(s.Gk.map bf.enc)[i]?=some (.agg [I x.a,I x.b]):=Z6 (f:=bf.enc) hx;have hlt:=Zh<|Z7 hx;have hw:=Zx (n:=i) (by have:=Z7 hx;omega)
   obtain⟨fr',h1,h2,_⟩:=ZS9 s hs i x hx;unfold mgB pOk at hP;simp only[ZWn,ZWG]at hP;obtain⟨⟨p1,p2,p3⟩,p4⟩:=hP;rw[p4]at h1;obtain⟨g1,g5⟩:=h2 p4;have r1:=ZOg x.a;have r2:=ZOg x.b;refine⟨_,by simp only[go_sem,c49L2b,c49L1,hg,hlt,hw,WJ,XL,n0,n1,if_true,r1,r2,p1,p2,p3,h1,g1,g5,ZWm,ZWo];rfl,?_⟩
   simp only[go_sem])
  (λi x hx hP=>by
   have hg:(s.Gk.map bf.enc)[i]?=some (.agg [I x.a,I x.b]):=Z6 (f:=bf.enc) hx;have hlt:=Zh<|Z7 hx;obtain⟨fr',h1,_,h2⟩:=ZS9 s hs i x hx;unfold mgB pOk at hP;have r1:=ZOg x.a;have r2:=ZOg x.b;cases p1:ZD x.a 0 63 with
   |false=>
    refine⟨_,by simp only[go_sem,c49L2b,hg,hlt,WJ,XL,n0,n1,if_true,r1,p1,ZWm,ZWq];rfl,?_⟩
    simp only[go_sem]
   |true=>
   cases p2:ZD x.b 0 63 with
   |false=>
    refine⟨_,by simp only[go_sem,c49L2b,hg,hlt,WJ,XL,n0,n1,if_true,r1,r2,p1,p2,ZWm,ZWq,ZWo];rfl,?_⟩
    simp only[go_sem]
   |true=>
   cases p3:(x.a==x.b)with
   |true=>
    refine⟨_,by simp only[go_sem,c49L2b,hg,hlt,WJ,XL,n0,n1,if_true,r1,r2,p1,p2,p3,ZWm,ZWo];rfl,?_⟩
    simp only[go_sem]
   |false=>
    rw[p1,p2,p3,ZWq,ZWp,ZWp,ZWp]at hP;rw[hP]at h1;obtain⟨g1,g5,g2⟩:=h2 hP;refine⟨_,by simp only[go_sem,c49L2b,c49L1,hg,hlt,g1,g5,g2,WJ,XL,n0,n1,if_true,r1,r2,p1,p2,p3,h1,ZWm,ZWo,ZWt,if_false];rfl,?_⟩
    simp only[go_sem])
  (⟨_,by simp only[go_sem,c49L2b,ZG,ZWm];rfl,by simp only[go_sem]⟩)
def ZQp(s:Sta)(hs:StS s)(a:Nat):∀(k n:Nat)(at':Int),n+k=65->∃fr',Zg rE [1,8,9,10] c49L3b [(1,stI s),(8,I a),(9,I at'),(10,I n)] []=some (if chN s k at'=true then .exit 8 else .ret,fr',[])/\
 (chN s k at'=true->get fr' 1=stI s/\get fr' 8=I a)/\(chN s k at'=false->get fr' 2=.bool false)
 |0,n,at',hk=>by
  have hn:n=65:=by omega
  subst hn;have hd:decide (((65:Nat):Int)>64)=true:=rfl;unfold chN;cases c:decide (at'>=0)with
  |false=>
   refine⟨_,Q7 rfl (by simp only[go_sem,c49L3b,c];rfl) (by simp),?_,?_⟩
   .intro _;constructor<;>simp only[go_sem]
   .intro h;cases h
  |true=>
   refine⟨_,Q7 rfl (by simp only[go_sem,c49L3b,c,hd];rfl) (by simp),?_,?_⟩
   .intro h;cases h
   .intro _;simp only[go_sem]
 |k+1,n,at',hk=>by
  have hd:decide (((n:Nat):Int)>64)=false:=decide_eq_false<|by omega
  have hw:=Zx (n:=n)<|by omega
  have ht:=ZUN s hs at';unfold chN;cases c:decide (at'>=0)with
  |false=>
   refine⟨_,Q7 rfl (by simp only[go_sem,c49L3b,c];rfl) (by simp),?_,?_⟩
   .intro _;constructor<;>simp only[go_sem]
   .intro h;cases h
  |true=>
   obtain⟨fr',h1,h2⟩:=ZQp s hs a k (n+1) (XJ s at')<|by omega
   refine⟨fr',?_,h2⟩;rw[cond_true,<-h1];rw[Yt rfl (by simp only[go_sem,c49L3b,c,hd,hw,ht];rfl)]
   simp only[go_sem]
def ZV7(s:Sta)(hs:StS s):∃fr',Zg rE [1,8] c49L4b [(1,stI s),(8,.int .i64 0)] []=some (if(List.range 64).all (λa=>chN s 65 a)=true then .exit 6 else .ret,fr',[])/\((List.range 64).all (λa=>chN s 65 a)=false->get fr' 2=.bool false):=by
 have hr:∀(i a:Nat),(List.range 64)[i]?=some a->a=i/\i<64:=λi a h=>by
  have h1:=Z7 h;rw[ZYg]at h1;rw[ZZf h1]at h;exact⟨by injection h with h;exact h.symm,h1⟩
 have L:=Uf (E:=rE) (live:=[1,8]) (b:=c49L4b) (h:=[]) (List.range 64) (λ_ a=>chN s 65 a) (λi=>[(1,stI s),(8,I i)]) 6 (λfr=>get fr 2=.bool false) (λk=>rfl)
  (λi a ha hP=>by
   obtain⟨rfl,h64⟩:=hr i a ha;have hlt:decide ((a:Int)<64)=true:=decide_eq_true<|by omega
   have hw:=Zx (n:=a)<|by omega
   obtain⟨fr',h1,h2,_⟩:=ZQp s hs a 65 0 a rfl;rw[hP]at h1;obtain⟨g1,g8⟩:=h2 hP;have h1':Zg rE [1,8,9,10] c49L3b [(1,stI s),(8,I a),(9,I a),(10,.int .i64 0)] []=_:=h1;refine⟨_,by simp only[go_sem,c49L4b,c49L3,hlt,hw,h1',g1,g8,if_true];rfl,?_⟩
   simp only[go_sem])
  (λi a ha hP=>by
   obtain⟨rfl,h64⟩:=hr i a ha;have hlt:decide ((a:Int)<64)=true:=decide_eq_true<|by omega
   obtain⟨fr',h1,_,h2⟩:=ZQp s hs a 65 0 a rfl;rw[hP]at h1;have h1':Zg rE [1,8,9,10] c49L3b [(1,stI s),(8,I a),(9,I a),(10,.int .i64 0)] []=_:=h1;refine⟨_,by simp only[go_sem,c49L4b,c49L3,hlt,h1',ZWt,if_false];rfl,?_⟩
   simp only[go_sem,h2 hP])
  (by
   have e:(List.range 64).length=64:=rfl;have hlt:decide (((64:Nat):Int)<64)=false:=rfl;rw[e];exact⟨_,by simp only[go_sem,c49L4b,hlt];rfl⟩)
 rw[QE]at L;exact L
def ZPV(s:Sta):Bool:=s.Wk.all pOk&&(Zu (mgB s.Gk) 0 s.Gk&&(List.range 64).all (λa=>chN s 65 a))
def ZV8(s:Sta)(hs:StS s):pfn rE 49 [stA s]=some (.bool<|ZPV s):=by
 obtain⟨f0,L0,a0,b0⟩:=ZV5 s hs;obtain⟨f2,L2,a2,b2⟩:=ZV6 s hs;obtain⟨f4,L4,b4⟩:=ZV7 s hs;rw[Z5 (f:=49) rfl rfl];unfold ZPV;cases c0:s.Wk.all pOk with
 |false=>rw[c0]at L0;simp only[go_sem,c49,c49L0,L0,b0 c0,ZWr,ZWt,if_false]
 |true=>
 rw[c0]at L0;cases c2:Zu (mgB s.Gk) 0 s.Gk with
 |false=>rw[c2]at L2;simp only[go_sem,c49,c49L0,c49L2,L0,a0 c0,L2,b2 c2,ZWr,ZWp,ZWt,if_false,if_true]
 |true=>
 rw[c2]at L2;cases c5004:(List.range 64).all (λa=>chN s 65 a)with
 |false=>rw[c5004]at L4;simp only[go_sem,c49,c49L0,c49L2,c49L4,L0,a0 c0,L2,a2 c2,L4,b4 c5004,ZWp,ZWt,if_false,if_true]
 |true=>rw[c5004]at L4;simp only[go_sem,c49,c49L0,c49L2,c49L4,L0,a0 c0,L2,a2 c2,L4,ZWp,if_true]
def itT(s:Sta):Nat->Int->Int
 |0,x=>x
 |n+1,x=>itT s n<|XJ s x
def Zdq(s:Sta):∀n x,itT s (n+1) x=XJ s (itT s n x)
 |0,_=>rfl
 |n+1,x=>Zdq s n<|XJ s x
def Zdh(s:Sta)(m:Nat)(x:Int):∀n,itT s (m+n) x=itT s n (itT s m x)
 |0=>rfl
 |n+1=>by rw[show m+(n+1)=(m+n)+1 by omega,Zdq,Zdh s m x n,Zdq]
def ZdY(s:Sta):∀n x,chN s n x=true↔∃j,j<=n/\itT s j x<0
 |0,x=>by
  unfold chN;rw[ZWG,decide_eq_false_iff_not];exact⟨λh=>⟨0,ZWs _,by show x<0;omega⟩,λ⟨j,h1,h2⟩=>by
   have:j=0:=by omega
   subst this;have:x<0:=h2;omega⟩
 |n+1,x=>by
  unfold chN;cases hx:decide (x>=0)with
  |false=>
   rw[cond_false];exact⟨λ_=>⟨0,ZWy _,by have:=of_decide_eq_false hx;show x<0;omega⟩,λ_=>rfl⟩
  |true=>
   rw[cond_true,ZdY s n];constructor
   .rintro⟨j,h1,h2⟩;exact⟨j+1,by omega,h2⟩
   .rintro⟨j,h1,h2⟩;cases j with
    |zero=>
     have:x<0:=h2;have:=of_decide_eq_true hx;omega
    |succ j=>exact⟨j,by omega,h2⟩
def ZdZ:∀(l m:List Int),l.Nodup->(∀x∈l,x∈m)->l.length<=m.length
 |[],m,_,_=>ZWy _
 |a::r,m,h,hs=>by
  rw[ZXD]at h;have ha:=hs a<|ZX4 ..;have:=ZdZ r (m.erase a) h.2<|λx hx=>(List.mem_erase_of_ne<|by rintro rfl;exact h.1 hx).2 (hs x<|ZXp _ hx)
  rw[List.length_erase_of_mem ha]at this;have hl:0<m.length:=List.length_pos_of_mem ha;rw[ZWH];omega
def least(P:Nat->Prop):∀n,P n->∃m,P m/\∀k,k<m->¬P k:=by
 intro n;induction n using Nat.strongRecOn with
 |_ n ih=>
  intro h;by_cases hc:∃k,k<n/\P k
  .obtain⟨k,h1,h2⟩:=hc;exact ih k h1 h2
  .exact⟨n,h,λk hk hp=>hc ⟨k,hk,hp⟩⟩
def Zez(s:Sta){n:Nat}{x:Int}(h:chN s n x=true):chN s (s.Gk.length+1) x=true:=by
 rw[ZdY]at h⊢;obtain⟨j,_,hj⟩:=h;obtain⟨m,hm,hmin⟩:=least (λj=>itT s j x<0) j hj
 refine⟨m,?_,hm⟩;have hnd:((List.range<|m-1).map (λi=>itT s i x)).Nodup:=by
  rw[ZZ7,ZZ6];refine List.Pairwise.imp_of_mem ?_<|ZZ7.1 List.nodup_range;intro i k hi hk hne heq;rw[ZXQ]at hi hk;rcases Nat.lt_or_gt_of_ne hne with hlt|hlt
  .have h1:itT s (k+(m-k)) x=itT s (i+(m-k)) x:=by rw[Zdh,Zdh,heq]
   rw[show k+(m-k)=m by omega]at h1
   exact hmin (i+(m-k)) (by omega)<|by rw[<-h1];exact hm
  .have h1:itT s (i+(m-i)) x=itT s (k+(m-i)) x:=by rw[Zdh,Zdh,heq]
   rw[show i+(m-i)=m by omega]at h1
   exact hmin (k+(m-i)) (by omega)<|by rw[<-h1];exact hm
 have hsub:∀y∈(List.range<|m-1).map (λi=>itT s i x),y∈s.Gk.map (·.b):=by
  intro y hy;obtain⟨i,hi,rfl⟩:=ZX2.1 hy;rw[ZXQ]at hi;have h1:=hmin (i+1)<|by omega
  rw[Zdq]at h1;unfold XJ at h1;cases hf:s.Gk.find? (λp=>p.b==itT s i x)with
  |none=>rw[hf]at h1;exact absurd (by decide) h1
  |some p=>
   have h2:=ZYI hf;have h3:=ZYX hf;rw[<-(by simpa using h2:p.b=itT s i x)]
   exact ZYx h3
 have:=ZdZ _ _ hnd hsub;rw[ZWm,ZWm,ZYg]at this;omega
def ZQq(p:bf):pOk p=Y2 p:=by
 have w1:ZD 0 (-1) 100000=true:=rfl;have w2:ZD 0 0 100000=true:=rfl;unfold pOk Y2 QM;rw[w1,w2];simp
def ZSa(x:Int):∀(l:List bf)(K:List Int),(l.foldl (λK p=>Qi Vm K p.b) K).any (Vm x)=(K.any (Vm x)||l.any (λq=>Vm x q.b))
 |[],K=>by simp
 |p::r,K=>by
  rw[ZXd,ZSa x r,ZXq,<-ZZ9];congr 1;unfold Qi;cases hk:K.any (Vm p.b)with
  |true=>
   rw[cond_true];cases he:Vm x p.b with
   |false=>simp
   |true=>
    have:x=p.b:=eq_of_beq he;rw[this,hk];simp
  |false=>rw[cond_false,List.any_append];simp
def ZSb(l:List bf):Zu (mgB l) 0 l=UB l:=by
 unfold UB;apply ZP3;intro i x;unfold mgB mgS QV;rw[ZQq,ZSa,ZXH,ZWB,ZPg];congr 1;apply ZOs;intro q _;unfold Vm;rw[ZOu]
def ZV9{l:List bf}(h:UB l=true):∀p∈l,Y2 p=true:=by
 rw[<-ZSb]at h;unfold mgB at h;rw[ZPr,ZWn,QE]at h;intro p hp;rw[<-ZQq];exact ZWF.1 h.1 p hp
def ZVa(s:Sta)(hm:s.Gk.length<=64):ZPV s=WK s:=by
 unfold ZPV WK;rw[ZSb,show s.Wk.all pOk=s.Wk.all Y2 from ZOs λp _=>ZQq p]
 cases hM:UB s.Gk with
 |false=>simp
 |true=>
  rw[ZWp,ZWp];congr 1;have hp:=ZV9 hM;rw[ZWK,ZWF,ZWF];constructor
  .intro h p hpm;have h1:=hp p hpm;unfold Y2 QM ZD at h1;simp only[ZWn,decide_eq_true_eq]at h1;have h2:=h p.b.toNat (by rw[ZXQ];omega)
   rw[show((p.b.toNat:Nat):Int)=p.b by omega]at h2
   exact Zez s h2
  .intro h a ha;rw[ZXQ]at ha;cases hf:s.Gk.find? (λp=>p.b==(a:Int))with
   |none=>
    rw[ZdY];refine⟨1,by omega,?_⟩
    show XJ s a<0
    unfold XJ;rw[hf];decide
   |some p=>
    have h2:=ZYI hf;have h3:=h p<|ZYX hf;have h4:p.b=(a:Int):=by simpa using h2
    rw[h4,ZdY]at h3;obtain⟨j,h5,h6⟩:=h3;rw[ZdY];exact⟨j,by omega,h6⟩
def ZVb(s:Sta)(hs:StS s)(hm:s.Gk.length<=64):pfn rE 49 [stA s]=some (.bool<|WK s):=by rw[ZV8 s hs,ZVa s hm]
structure StR(s:Sta):Prop extends StE s where
 rn:∀x∈s.Ga,∀n∈x.bk.l,n.Lang.size<=1000000/\n.Text.size<=1000000
 sn:∀x∈s.Gr,∀n∈x.bk.l,n.Lang.size<=1000000/\n.Text.size<=1000000
 mg:s.Gk.length<=64
def rgR(x:Gm):Bool:=ZD x.bh 0 63&&(ZD x.Ld (-1) 100000&&(Jp x.bk.l x.bk.ex&&(Q9 {Jt x with bq:=1})))
def ZVc(x:Gm):rgR x=Vo x:=by
 have w:ZD 0 0 100000=true:=rfl;unfold rgR Vo QM;rw[w];simp[ZXO]
def ZVd(s:Sta)(hs:StR s):∃fr',Zg rE [1,3] c25L0b [(1,stI s),(3,.int .i64 0)] []=some (if s.Ga.all rgR=true then .exit 0 else .ret,fr',[])/\
 (s.Ga.all rgR=true->get fr' 1=stI s)/\(s.Ga.all rgR=false->get fr' 2=.bool false):=by
 have L:=QT (E:=rE) (live:=[1,3]) (b:=c25L0b) (h:=[]) s.Ga (λ_ x=>rgR x) (λi=>[(1,stI s),(3,I i)]) 0 (λfr=>get fr 1=stI s) (λfr=>get fr 2=.bool false) (λk=>rfl)
  (λi x hx hP=>by
   have hg:(s.Ga.map Gm.enc)[i]?=some (.agg [.str x.Id,I x.bq,I x.bh,.isl false x.Ring.ex 2<|x.Ring.l.map Pt.enc,.isl false x.bk.ex 3<|x.bk.l.map Nm.enc,I x.Ld]):=Z6 (f:=Gm.enc) hx;have hlt:=Zh<|Z7 hx;have hm:=ZWA hx;have hw:=Zx (n:=i) (by have:=Z7 hx;have:=hs.toStE.sizes.regions;omega)
   have h0:=ZOg x.bh;have h1:=ZOj x.Ld<|-1;have h2:=ZPT x.bk.l x.bk.ex (hs.toStE.regions x hm).1 (hs.rn x hm);have h30:=ZOv {Jt x with bq:=1} ⟨⟨by simp[Jt],by simp[Jt],(hs.toStE.regions x hm).2.1,by simp[Jt],(hs.toStE.regions x hm).2.2,ZWP rfl,ZWP rfl⟩,ZOC _ rfl⟩<|by simp
   have h3:pfn rE 54 [.agg [I 1,I 0,I x.bq,I 0,I 0,.str x.Id,.str emp,.str emp,.isl false false 1 [],.isl false false 3 [],I 0,.str emp,I 0,I 0,I 0,I 0,.isl false x.Ring.ex 2<|x.Ring.l.map Pt.enc,.isl false false 7 []]]=some (.bool<|Q9 {Jt x with bq:=1}):=h30
   unfold rgR at hP;simp only[ZWn]at hP;obtain⟨p0,p1,p2,p3⟩:=hP;refine⟨_,by simp only[go_sem,c25L0b,hg,hlt,hw,h0,h1,h2,h3,p0,p1,p2,p3,ZWm,ZWo];rfl,?_⟩
   simp only[go_sem])
  (λi x hx hP=>by
   have hg:(s.Ga.map Gm.enc)[i]?=some (.agg [.str x.Id,I x.bq,I x.bh,.isl false x.Ring.ex 2<|x.Ring.l.map Pt.enc,.isl false x.bk.ex 3<|x.bk.l.map Nm.enc,I x.Ld]):=Z6 (f:=Gm.enc) hx;have hlt:=Zh<|Z7 hx;have hm:=ZWA hx;have h0:=ZOg x.bh;have h1:=ZOj x.Ld<|-1;have h2:=ZPT x.bk.l x.bk.ex (hs.toStE.regions x hm).1 (hs.rn x hm);have h30:=ZOv {Jt x with bq:=1} ⟨⟨by simp[Jt],by simp[Jt],(hs.toStE.regions x hm).2.1,by simp[Jt],(hs.toStE.regions x hm).2.2,ZWP rfl,ZWP rfl⟩,ZOC _ rfl⟩<|by simp
   have h3:pfn rE 54 [.agg [I 1,I 0,I x.bq,I 0,I 0,.str x.Id,.str emp,.str emp,.isl false false 1 [],.isl false false 3 [],I 0,.str emp,I 0,I 0,I 0,I 0,.isl false x.Ring.ex 2<|x.Ring.l.map Pt.enc,.isl false false 7 []]]=some (.bool<|Q9 {Jt x with bq:=1}):=h30
   unfold rgR at hP;cases p0:ZD x.bh 0 63 with
   |false=>
    refine⟨_,by simp only[go_sem,c25L0b,hg,hlt,h0,h1,h2,h3,p0,ZWm,ZWo,ZWq];rfl,?_⟩
    simp only[go_sem]
   |true=>
   cases p1:ZD x.Ld (-1) 100000 with
   |false=>
    refine⟨_,by simp only[go_sem,c25L0b,hg,hlt,h0,h1,h2,h3,p0,p1,ZWm,ZWo,ZWq];rfl,?_⟩
    simp only[go_sem]
   |true=>
   cases p2:Jp x.bk.l x.bk.ex with
   |false=>
    refine⟨_,by simp only[go_sem,c25L0b,hg,hlt,h0,h1,h2,h3,p0,p1,p2,ZWm,ZWo,ZWq];rfl,?_⟩
    simp only[go_sem]
   |true=>
   rw[p0,p1,p2,ZWp,ZWp,ZWp]at hP;refine⟨_,by simp only[go_sem,c25L0b,hg,hlt,h0,h1,h2,h3,p0,p1,p2,hP,ZWm,ZWo,ZWq];rfl,?_⟩
   simp only[go_sem])
  (⟨_,by simp only[go_sem,c25L0b,ZG,ZWm];rfl,by simp only[go_sem]⟩)
 rw[QE]at L;exact L
def stR(x:Ev):Bool:=ZD x.bh 0 63&&(ZD x.Ld (-1) 100000&&(Jp x.bk.l x.bk.ex&&(Q9 {Ju x with bq:=2})))
def ZVe(x:Ev):stR x=Vp x:=by
 have w:ZD 0 0 100000=true:=rfl;unfold stR Vp QM;rw[w];simp[ZXO]
def ZVf(s:Sta)(hs:StR s):∃fr',Zg rE [1,5] c25L1b [(1,stI s),(5,.int .i64 0)] []=some (if s.Gr.all stR=true then .exit 2 else .ret,fr',[])/\
 (s.Gr.all stR=true->get fr' 1=stI s)/\(s.Gr.all stR=false->get fr' 2=.bool false):=by
 have L:=QT (E:=rE) (live:=[1,5]) (b:=c25L1b) (h:=[]) s.Gr (λ_ x=>stR x) (λi=>[(1,stI s),(5,I i)]) 2 (λfr=>get fr 1=stI s) (λfr=>get fr 2=.bool false) (λk=>rfl)
  (λi x hx hP=>by
   have hg:(s.Gr.map Ev.enc)[i]?=some (.agg [.str x.Id,I x.bh,.isl false x.Line.ex 2<|x.Line.l.map Pt.enc,.isl false x.bk.ex 3<|x.bk.l.map Nm.enc,I x.Ld]):=Z6 (f:=Ev.enc) hx;have hlt:=Zh<|Z7 hx;have hm:=ZWA hx;have hw:=Zx (n:=i) (by have:=Z7 hx;have:=hs.toStE.sizes.streets;omega)
   have h0:=ZOg x.bh;have h1:=ZOj x.Ld<|-1;have h2:=ZPT x.bk.l x.bk.ex (hs.toStE.streets x hm).1 (hs.sn x hm);have h30:=ZOv {Ju x with bq:=2} ⟨⟨by simp[Ju],by simp[Ju],(hs.toStE.streets x hm).2.1,by simp[Ju],(hs.toStE.streets x hm).2.2,ZWP rfl,ZWP rfl⟩,ZOC _ rfl⟩<|by simp
   have h3:pfn rE 54 [.agg [I 2,I 0,I 0,I 0,I 0,.str x.Id,.str emp,.str emp,.isl false false 1 [],.isl false false 3 [],I 0,.str emp,I 0,I 0,I 0,I 0,.isl false x.Line.ex 2<|x.Line.l.map Pt.enc,.isl false false 7 []]]=some (.bool<|Q9 {Ju x with bq:=2}):=h30
   unfold stR at hP;simp only[ZWn]at hP;obtain⟨p0,p1,p2,p3⟩:=hP;refine⟨_,by simp only[go_sem,c25L1b,hg,hlt,hw,h0,h1,h2,h3,p0,p1,p2,p3,ZWm,ZWo];rfl,?_⟩
   simp only[go_sem])
  (λi x hx hP=>by
   have hg:(s.Gr.map Ev.enc)[i]?=some (.agg [.str x.Id,I x.bh,.isl false x.Line.ex 2<|x.Line.l.map Pt.enc,.isl false x.bk.ex 3<|x.bk.l.map Nm.enc,I x.Ld]):=Z6 (f:=Ev.enc) hx;have hlt:=Zh<|Z7 hx;have hm:=ZWA hx;have h0:=ZOg x.bh;have h1:=ZOj x.Ld<|-1;have h2:=ZPT x.bk.l x.bk.ex (hs.toStE.streets x hm).1 (hs.sn x hm);have h30:=ZOv {Ju x with bq:=2} ⟨⟨by simp[Ju],by simp[Ju],(hs.toStE.streets x hm).2.1,by simp[Ju],(hs.toStE.streets x hm).2.2,ZWP rfl,ZWP rfl⟩,ZOC _ rfl⟩<|by simp
   have h3:pfn rE 54 [.agg [I 2,I 0,I 0,I 0,I 0,.str x.Id,.str emp,.str emp,.isl false false 1 [],.isl false false 3 [],I 0,.str emp,I 0,I 0,I 0,I 0,.isl false x.Line.ex 2<|x.Line.l.map Pt.enc,.isl false false 7 []]]=some (.bool<|Q9 {Ju x with bq:=2}):=h30
   unfold stR at hP;cases p0:ZD x.bh 0 63 with
   |false=>
    refine⟨_,by simp only[go_sem,c25L1b,hg,hlt,h0,h1,h2,h3,p0,ZWm,ZWo,ZWq];rfl,?_⟩
    simp only[go_sem]
   |true=>
   cases p1:ZD x.Ld (-1) 100000 with
   |false=>
    refine⟨_,by simp only[go_sem,c25L1b,hg,hlt,h0,h1,h2,h3,p0,p1,ZWm,ZWo,ZWq];rfl,?_⟩
    simp only[go_sem]
   |true=>
   cases p2:Jp x.bk.l x.bk.ex with
   |false=>
    refine⟨_,by simp only[go_sem,c25L1b,hg,hlt,h0,h1,h2,h3,p0,p1,p2,ZWm,ZWo,ZWq];rfl,?_⟩
    simp only[go_sem]
   |true=>
   rw[p0,p1,p2,ZWp,ZWp,ZWp]at hP;refine⟨_,by simp only[go_sem,c25L1b,hg,hlt,h0,h1,h2,h3,p0,p1,p2,hP,ZWm,ZWo,ZWq];rfl,?_⟩
   simp only[go_sem])
  (⟨_,by simp only[go_sem,c25L1b,ZG,ZWm];rfl,by simp only[go_sem]⟩)
 rw[QE]at L;exact L
def buR(x:Fa):Bool:=ZD x.bh 0 63&&(ZD x.Ld (-1) 100000&&(Q9 {Jv x with bq:=5}))
def ZVg(x:Fa):buR x=Vq x:=by
 have w:ZD 0 0 100000=true:=rfl;unfold buR Vq QM;rw[w];simp[ZXO]
def ZVh(s:Sta)(hs:StR s):∃fr',Zg rE [1,7] c25L2b [(1,stI s),(7,.int .i64 0)] []=some (if s.By.all buR=true then .exit 4 else .ret,fr',[])/\
 (s.By.all buR=true->get fr' 1=stI s)/\(s.By.all buR=false->get fr' 2=.bool false):=by
 have L:=QT (E:=rE) (live:=[1,7]) (b:=c25L2b) (h:=[]) s.By (λ_ x=>buR x) (λi=>[(1,stI s),(7,I i)]) 4 (λfr=>get fr 1=stI s) (λfr=>get fr 2=.bool false) (λk=>rfl)
  (λi x hx hP=>by
   have hg:(s.By.map Fa.enc)[i]?=some (.agg [.str x.Id,I x.bh,.isl false x.Ring.ex 2<|x.Ring.l.map Pt.enc,I x.Ld]):=Z6 (f:=Fa.enc) hx;have hlt:=Zh<|Z7 hx;have hm:=ZWA hx;have hw:=Zx (n:=i) (by have:=Z7 hx;have:=hs.toStE.sizes.buildings;omega)
   have h0:=ZOg x.bh;have h1:=ZOj x.Ld<|-1;have h20:=ZOv {Jv x with bq:=5} ⟨⟨by simp[Jv],by simp[Jv],(hs.toStE.buildings x hm).1,by simp[Jv],(hs.toStE.buildings x hm).2,ZWP rfl,ZWP rfl⟩,ZOC _ rfl⟩<|by simp
   have h2:pfn rE 54 [.agg [I 5,I 0,I 0,I 0,I 0,.str x.Id,.str emp,.str emp,.isl false false 1 [],.isl false false 3 [],I 0,.str emp,I 0,I 0,I 0,I 0,.isl false x.Ring.ex 2<|x.Ring.l.map Pt.enc,.isl false false 7 []]]=some (.bool<|Q9 {Jv x with bq:=5}):=h20
   unfold buR at hP;simp only[ZWn]at hP;obtain⟨p0,p1,p2⟩:=hP;refine⟨_,by simp only[go_sem,c25L2b,hg,hlt,hw,h0,h1,h2,p0,p1,p2,ZWm,ZWo];rfl,?_⟩
   simp only[go_sem])
  (λi x hx hP=>by
   have hg:(s.By.map Fa.enc)[i]?=some (.agg [.str x.Id,I x.bh,.isl false x.Ring.ex 2<|x.Ring.l.map Pt.enc,I x.Ld]):=Z6 (f:=Fa.enc) hx;have hlt:=Zh<|Z7 hx;have hm:=ZWA hx;have h0:=ZOg x.bh;have h1:=ZOj x.Ld<|-1;have h20:=ZOv {Jv x with bq:=5} ⟨⟨by simp[Jv],by simp[Jv],(hs.toStE.buildings x hm).1,by simp[Jv],(hs.toStE.buildings x hm).2,ZWP rfl,ZWP rfl⟩,ZOC _ rfl⟩<|by simp
   have h2:pfn rE 54 [.agg [I 5,I 0,I 0,I 0,I 0,.str x.Id,.str emp,.str emp,.isl false false 1 [],.isl false false 3 [],I 0,.str emp,I 0,I 0,I 0,I 0,.isl false x.Ring.ex 2<|x.Ring.l.map Pt.enc,.isl false false 7 []]]=some (.bool<|Q9 {Jv x with bq:=5}):=h20
   unfold buR at hP;cases p0:ZD x.bh 0 63 with
   |false=>
    refine⟨_,by simp only[go_sem,c25L2b,hg,hlt,h0,h1,h2,p0,ZWm,ZWo,ZWq];rfl,?_⟩
    simp only[go_sem]
   |true=>
   cases p1:ZD x.Ld (-1) 100000 with
   |false=>
    refine⟨_,by simp only[go_sem,c25L2b,hg,hlt,h0,h1,h2,p0,p1,ZWm,ZWo,ZWq];rfl,?_⟩
    simp only[go_sem]
   |true=>
   rw[p0,p1,ZWp,ZWp]at hP;refine⟨_,by simp only[go_sem,c25L2b,hg,hlt,h0,h1,h2,p0,p1,hP,ZWm,ZWo,ZWq];rfl,?_⟩
   simp only[go_sem])
  (⟨_,by simp only[go_sem,c25L2b,ZG,ZWm];rfl,by simp only[go_sem]⟩)
 rw[QE]at L;exact L
def ZPs(s:Sta)(i:Nat)(x:Gc):Bool:=Zu (afS s i x.After.l) 0 x.After.l&&ZPi x
def ZVi(s:Sta)(hs:StR s):∃fr',Zg rE [1,9] c25L3b [(1,stI s),(9,.int .i64 0)] []=some (if Zu (ZOM s) 0 s.Bc=true then .exit 6 else .ret,fr',[])/\
 (Zu (ZOM s) 0 s.Bc=true->get fr' 1=stI s)/\(Zu (ZOM s) 0 s.Bc=false->get fr' 2=.bool false):=by
 exact QT (E:=rE) (live:=[1,9]) (b:=c25L3b) (h:=[]) s.Bc (ZOM s) (λi=>[(1,stI s),(9,I i)]) 6 (λfr=>get fr 1=stI s) (λfr=>get fr 2=.bool false) (λk=>rfl)
  (λi x hx hP=>by
   have hg:(s.Bc.map Gc.enc)[i]?=some (.agg [.str x.Id,.str x.Fa,.str x.Ev,I x.bh,I x.An.N,.str x.An.bm,I x.An.Num,I x.An.Den,I x.bg.X,I x.bg.Y,I x.From,I x.Ld,.isl false x.After.ex 1<|x.After.l.map encS,I x.Why,I x.bv,.str x.Veil]):=Z6 (f:=Gc.enc) hx;have hlt:=Zh<|Z7 hx;have hm:=ZWA hx;have hd:=hs.toStE.doors x hm;have hw:=Zx (n:=i) (by have:=Z7 hx;have:=hs.toStE.sizes.doors;omega)
   have h0:=ZOg x.bh;have h1:=ZOj x.Ld<|-1;have h2:=ZOj x.From 0;have h3:pfn rE 55 [stA s,I i]=some (.bool<|ZPs s i x):=ZS4 s hs.toStE.sizes i x hx hd;have h4:pfn rE 56 [stA s,.agg [.str x.Id,.str x.Fa,.str x.Ev,I x.bh,I x.An.N,.str x.An.bm,I x.An.Num,I x.An.Den,I x.bg.X,I x.bg.Y,I x.From,I x.Ld,.isl false x.After.ex 1<|x.After.l.map encS,I x.Why,I x.bv,.str x.Veil]]=some (.bool<|ZOV s x):=ZS2 s hs.toStE.sizes x hd;have h5:pfn rE 57 [.agg [.str x.Id,.str x.Fa,.str x.Ev,I x.bh,I x.An.N,.str x.An.bm,I x.An.Num,I x.An.Den,I x.bg.X,I x.bg.Y,I x.From,I x.Ld,.isl false x.After.ex 1<|x.After.l.map encS,I x.Why,I x.bv,.str x.Veil]]=some (.bool<|ZOL x):=ZS1 x hd;have hP':(ZD x.bh 0 63&&(ZD x.Ld (-1) 100000&&(ZD x.From 0 100000&&(ZPs s i x&&(bif Z3 x.Veil emp then ZOV s x else ZOL x)))))=true:=hP;simp only[ZWn]at hP';obtain⟨p0,p1,p2,p3,p4⟩:=hP';cases v:Z3 x.Veil emp with
   |true=>
    rw[v,cond_true]at p4;refine⟨_,by simp only[go_sem,c25L3b,hg,hlt,hw,h0,h1,h2,h3,h4,h5,ZWm,ZWo,ZWq,p0,p1,p2,p3,v,p4];rfl,?_⟩
    simp only[go_sem]
   |false=>
    rw[v,cond_false]at p4;refine⟨_,by simp only[go_sem,c25L3b,hg,hlt,hw,h0,h1,h2,h3,h4,h5,ZWm,ZWo,ZWq,p0,p1,p2,p3,v,p4];rfl,?_⟩
    simp only[go_sem])
  (λi x hx hP=>by
   have hg:(s.Bc.map Gc.enc)[i]?=some (.agg [.str x.Id,.str x.Fa,.str x.Ev,I x.bh,I x.An.N,.str x.An.bm,I x.An.Num,I x.An.Den,I x.bg.X,I x.bg.Y,I x.From,I x.Ld,.isl false x.After.ex 1<|x.After.l.map encS,I x.Why,I x.bv,.str x.Veil]):=Z6 (f:=Gc.enc) hx;have hlt:=Zh<|Z7 hx;have hm:=ZWA hx;have hd:=hs.toStE.doors x hm;have hw:=Zx (n:=i) (by have:=Z7 hx;have:=hs.toStE.sizes.doors;omega)
   have h0:=ZOg x.bh;have h1:=ZOj x.Ld<|-1;have h2:=ZOj x.From 0;have h3:pfn rE 55 [stA s,I i]=some (.bool<|ZPs s i x):=ZS4 s hs.toStE.sizes i x hx hd;have h4:pfn rE 56 [stA s,.agg [.str x.Id,.str x.Fa,.str x.Ev,I x.bh,I x.An.N,.str x.An.bm,I x.An.Num,I x.An.Den,I x.bg.X,I x.bg.Y,I x.From,I x.Ld,.isl false x.After.ex 1<|x.After.l.map encS,I x.Why,I x.bv,.str x.Veil]]=some (.bool<|ZOV s x):=ZS2 s hs.toStE.sizes x hd;have h5:pfn rE 57 [.agg [.str x.Id,.str x.Fa,.str x.Ev,I x.bh,I x.An.N,.str x.An.bm,I x.An.Num,I x.An.Den,I x.bg.X,I x.bg.Y,I x.From,I x.Ld,.isl false x.After.ex 1<|x.After.l.map encS,I x.Why,I x.bv,.str x.Veil]]=some (.bool<|ZOL x):=ZS1 x hd;have hP':(ZD x.bh 0 63&&(ZD x.Ld (-1) 100000&&(ZD x.From 0 100000&&(ZPs s i x&&(bif Z3 x.Veil emp then ZOV s x else ZOL x)))))=false:=hP;cases p0:ZD x.bh 0 63 with
   |false=>
    refine⟨_,by simp only[go_sem,c25L3b,hg,hlt,hw,h0,h1,h2,h3,h4,h5,ZWm,ZWo,ZWq,p0];rfl,?_⟩
    simp only[go_sem]
   |true=>
   cases p1:ZD x.Ld (-1) 100000 with
   |false=>
    refine⟨_,by simp only[go_sem,c25L3b,hg,hlt,hw,h0,h1,h2,h3,h4,h5,ZWm,ZWo,ZWq,p0,p1];rfl,?_⟩
    simp only[go_sem]
   |true=>
   cases p2:ZD x.From 0 100000 with
   |false=>
    refine⟨_,by simp only[go_sem,c25L3b,hg,hlt,hw,h0,h1,h2,h3,h4,h5,ZWm,ZWo,ZWq,p0,p1,p2];rfl,?_⟩
    simp only[go_sem]
   |true=>
   cases p3:ZPs s i x with
   |false=>
    refine⟨_,by simp only[go_sem,c25L3b,hg,hlt,hw,h0,h1,h2,h3,h4,h5,ZWm,ZWo,ZWq,p0,p1,p2,p3];rfl,?_⟩
    simp only[go_sem]
   |true=>
   rw[p0,p1,p2,p3,ZWp,ZWp,ZWp,ZWp]at hP';cases v:Z3 x.Veil emp with
   |true=>
    rw[v,cond_true]at hP';refine⟨_,by simp only[go_sem,c25L3b,hg,hlt,hw,h0,h1,h2,h3,h4,h5,ZWm,ZWo,ZWq,p0,p1,p2,p3,v,hP'];rfl,?_⟩
    simp only[go_sem]
   |false=>
    rw[v,cond_false]at hP';refine⟨_,by simp only[go_sem,c25L3b,hg,hlt,hw,h0,h1,h2,h3,h4,h5,ZWm,ZWo,ZWq,p0,p1,p2,p3,v,hP'];rfl,?_⟩
    simp only[go_sem])
  (⟨_,by simp only[go_sem,c25L3b,ZG,ZWm];rfl,by simp only[go_sem]⟩)
def uwB(x:be)(d:Bool):Bool:=bif x.Ld==-1 then(x.Why==0&&d)else(x.Why==12||x.Why==11)
def ZOD(s:Sta)(x:be):Bool:=ZD x.Ld (-1) 100000&&(ZD x.From 0 100000&&(Q9 {Vn x with bq:=7}&&(!decide (Zn s x.Gc<0)&&uwB x (QN s (Zn s x.Gc)==-1))))
def ZVj(s:Sta)(x:be):ZOD s x=Vs s x:=by
 have w:ZD 0 0 63=true:=rfl;unfold ZOD Vs Jw uwB QM;rw[w];simp only[bne];cases decide (Zn s x.Gc<0)<;>cases ZD x.Ld (-1) 100000<;>cases ZD x.From 0 100000<;>cases Q9 {Vn x with bq:=7}<;>cases(x.Ld==-1)<;>cases(x.Why==0)<;>cases(x.Why==12)<;>cases(x.Why==11)<;>cases(QN s (Zn s x.Gc)==-1)<;>rfl
def ZVk(s:Sta)(hs:StR s):∃fr',Zg rE [1,11] c25L4b [(1,stI s),(11,.int .i64 0)] []=some (if s.Nk.all (ZOD s)=true then .exit 8 else .ret,fr',[])/\(s.Nk.all (ZOD s)=false->get fr' 2=.bool false):=by
 have L:=Uf (E:=rE) (live:=[1,11]) (b:=c25L4b) (h:=[]) s.Nk (λ_ x=>ZOD s x) (λi=>[(1,stI s),(11,I i)]) 8 (λfr=>get fr 2=.bool false) (λk=>rfl)
  (λi x hx hP=>by
   have hg:(s.Nk.map be.enc)[i]?=some (.agg [.str x.Id,.str x.Gc,.str x.Text,I x.From,I x.Ld,I x.Why]):=Z6 (f:=be.enc) hx;have hlt:=Zh<|Z7 hx;have hm:=ZWA hx;obtain⟨z1,z2,z3⟩:=hs.toStE.units x hm;have hw:=Zx (n:=i) (by have:=Z7 hx;have:=hs.toStE.sizes.units;omega)
   have h0:=ZOj x.Ld<|-1;have h1:=ZOj x.From 0;have h20:=ZOv {Vn x with bq:=7} ⟨⟨by simp[Vn],by simp[Vn],by simp[Vn],by simp[Vn],z1,z2,z3⟩,ZOC _ rfl⟩<|by simp
   have h2:pfn rE 54 [.agg [I 7,I 0,I 0,I 0,I 0,.str x.Id,.str x.Gc,.str x.Text,.isl false false 1 [],.isl false false 3 [],I 0,.str emp,I 0,I 0,I 0,I 0,.isl false false 2 [],.isl false false 7 []]]=some (.bool<|Q9 {Vn x with bq:=7}):=h20
   have h3:=ZOK s hs.toStE.sizes x.Gc;have n0:(x.Why != 0) = !(x.Why==0):=rfl;have n11:(x.Why != 11) = !(x.Why==11):=rfl;have n12:(x.Why != 12) = !(x.Why==12):=rfl;have ne:(x.Ld != -1) = !(x.Ld==-1):=rfl;unfold ZOD at hP;simp only[ZWn,ZWG]at hP;obtain⟨p0,p1,p2,p3,p4⟩:=hP;have hneg:decide (Zn s x.Gc>=0)=true:=by have:=of_decide_eq_false p3;exact decide_eq_true<|by omega
   obtain⟨j,d,hj,hdj⟩:=ZPU _ s.Bc hneg;have hj':Zn s x.Gc=(j:Int):=hj;have hgd:=Z6 (f:=Gc.enc) hdj;rw[show Gc.enc d=Zo d from rfl]at hgd
   have ed:QN s (j:Int)=d.Ld:=by unfold QN;rw[ZXR,hdj]
   have nd:(d.Ld != -1) = !(d.Ld==-1):=rfl;rw[hj']at h3 p3 p4;rw[ed]at p4;unfold Zo at hgd;unfold uwB at p4;cases q:(x.Ld==-1)with
   |true=>
    rw[q,cond_true,ZWn]at p4;refine⟨_,by simp only[go_sem,c25L4b,hg,hlt,hw,h0,h1,h2,h3,ZWm,ZWo,ZWq,n0,n11,n12,ne,nd,hgd,p0,p1,p2,p3,q,p4.1,p4.2];rfl,?_⟩
    simp only[go_sem]
   |false=>
    rw[q,cond_false]at p4;cases y:(x.Why==12)with
    |true=>
     refine⟨_,by simp only[go_sem,c25L4b,hg,hlt,hw,h0,h1,h2,h3,ZWm,ZWo,ZWq,n0,n11,n12,ne,nd,hgd,p0,p1,p2,p3,q,y];rfl,?_⟩
     simp only[go_sem]
    |false=>
     rw[y,ZWB]at p4;refine⟨_,by simp only[go_sem,c25L4b,hg,hlt,hw,h0,h1,h2,h3,ZWm,ZWo,ZWq,n0,n11,n12,ne,nd,hgd,p0,p1,p2,p3,q,y,p4];rfl,?_⟩
     simp only[go_sem])
  (λi x hx hP=>by
   have hg:(s.Nk.map be.enc)[i]?=some (.agg [.str x.Id,.str x.Gc,.str x.Text,I x.From,I x.Ld,I x.Why]):=Z6 (f:=be.enc) hx;have hlt:=Zh<|Z7 hx;have hm:=ZWA hx;obtain⟨z1,z2,z3⟩:=hs.toStE.units x hm;have hw:=Zx (n:=i) (by have:=Z7 hx;have:=hs.toStE.sizes.units;omega)
   have h0:=ZOj x.Ld<|-1;have h1:=ZOj x.From 0;have h20:=ZOv {Vn x with bq:=7} ⟨⟨by simp[Vn],by simp[Vn],by simp[Vn],by simp[Vn],z1,z2,z3⟩,ZOC _ rfl⟩<|by simp
   have h2:pfn rE 54 [.agg [I 7,I 0,I 0,I 0,I 0,.str x.Id,.str x.Gc,.str x.Text,.isl false false 1 [],.isl false false 3 [],I 0,.str emp,I 0,I 0,I 0,I 0,.isl false false 2 [],.isl false false 7 []]]=some (.bool<|Q9 {Vn x with bq:=7}):=h20
   have h3:=ZOK s hs.toStE.sizes x.Gc;have n0:(x.Why != 0) = !(x.Why==0):=rfl;have n11:(x.Why != 11) = !(x.Why==11):=rfl;have n12:(x.Why != 12) = !(x.Why==12):=rfl;have ne:(x.Ld != -1) = !(x.Ld==-1):=rfl;unfold ZOD at hP;cases p0:ZD x.Ld (-1) 100000 with
   |false=>
    refine⟨_,by simp only[go_sem,c25L4b,hg,hlt,hw,h0,h1,h2,h3,ZWm,ZWo,ZWq,n0,n11,n12,ne,p0];rfl,?_⟩
    simp only[go_sem]
   |true=>
   cases p1:ZD x.From 0 100000 with
   |false=>
    refine⟨_,by simp only[go_sem,c25L4b,hg,hlt,hw,h0,h1,h2,h3,ZWm,ZWo,ZWq,n0,n11,n12,ne,p0,p1];rfl,?_⟩
    simp only[go_sem]
   |true=>
   cases p2:Q9 {Vn x with bq:=7}with
   |false=>
    refine⟨_,by simp only[go_sem,c25L4b,hg,hlt,hw,h0,h1,h2,h3,ZWm,ZWo,ZWq,n0,n11,n12,ne,p0,p1,p2];rfl,?_⟩
    simp only[go_sem]
   |true=>
   cases p3:decide (Zn s x.Gc<0)with
   |true=>
    refine⟨_,by simp only[go_sem,c25L4b,hg,hlt,hw,h0,h1,h2,h3,ZWm,ZWo,ZWq,n0,n11,n12,ne,p0,p1,p2,p3];rfl,?_⟩
    simp only[go_sem]
   |false=>
   have hneg:decide (Zn s x.Gc>=0)=true:=by have:=of_decide_eq_false p3;exact decide_eq_true<|by omega
   obtain⟨j,d,hj,hdj⟩:=ZPU _ s.Bc hneg;have hj':Zn s x.Gc=(j:Int):=hj;have hgd:=Z6 (f:=Gc.enc) hdj;rw[show Gc.enc d=Zo d from rfl]at hgd
   have ed:QN s (j:Int)=d.Ld:=by unfold QN;rw[ZXR,hdj]
   have nd:(d.Ld != -1) = !(d.Ld==-1):=rfl;rw[p0,p1,p2,p3,ZWq,ZWp,ZWp,ZWp,ZWp,hj',ed]at hP;rw[hj']at h3 p3;unfold Zo at hgd;unfold uwB at hP;cases q:(x.Ld==-1)with
   |true=>
    rw[q,cond_true]at hP;cases y:(x.Why==0)with
    |false=>
     refine⟨_,by simp only[go_sem,c25L4b,hg,hlt,hw,h0,h1,h2,h3,ZWm,ZWo,ZWq,n0,n11,n12,ne,nd,hgd,p0,p1,p2,p3,q,y];rfl,?_⟩
     simp only[go_sem]
    |true=>
     rw[y,ZWp]at hP;refine⟨_,by simp only[go_sem,c25L4b,hg,hlt,hw,h0,h1,h2,h3,ZWm,ZWo,ZWq,n0,n11,n12,ne,nd,hgd,p0,p1,p2,p3,q,y,hP];rfl,?_⟩
     simp only[go_sem]
   |false=>
    rw[q,cond_false,ZXE]at hP;refine⟨_,by simp only[go_sem,c25L4b,hg,hlt,hw,h0,h1,h2,h3,ZWm,ZWo,ZWq,n0,n11,n12,ne,nd,hgd,p0,p1,p2,p3,q,hP.1,hP.2];rfl,?_⟩
    simp only[go_sem])
  (⟨_,by simp only[go_sem,c25L4b,ZG,ZWm];rfl⟩)
 rw[QE]at L;exact L
def ZP7(s:Sta)(hs:StR s):pfn rE 25 [stA s]=some (.bool<|Jx s):=by
 have hz:=hs.toStE.sizes;have e:Jx s=(Jq (Qp s)&&(WK s&&(Wh s.Bc&&(s.Ga.all rgR&&(s.Gr.all stR&&(s.By.all buR&&(Zu (ZOM s) 0 s.Bc&&s.Nk.all (ZOD s)))))))):=by
  unfold Jx;rw[show s.Ga.all Vo=s.Ga.all rgR from ZOs λx _=>(ZVc x).symm,show s.Gr.all Vp=s.Gr.all stR from ZOs λx _=>(ZVe x).symm,
   show s.By.all Vq=s.By.all buR from ZOs λx _=>(ZVg x).symm,show s.Nk.all (Vs s)=s.Nk.all (ZOD s)from ZOs λx _=>(ZVj s x).symm,
   show Zu (Vr s) 0 s.Bc=Zu (ZOM s) 0 s.Bc from ZP3 _ _ λi x=>(ZUT s i x).symm]
  cases Jq (Qp s)<;>cases WK s<;>cases Wh s.Bc<;>simp
 have hu:=ZV4 s hz;have hp:=ZVb s hz hs.mg;have hn:=ZUU s hz;rw[ZUW]at hn;obtain⟨f0,L0,a0,b0⟩:=ZVd s hs;obtain⟨f1,L1,a1,b1⟩:=ZVf s hs;obtain⟨f2,L2,a2,b2⟩:=ZVh s hs;obtain⟨f3,L3,a3,b3⟩:=ZVi s hs;obtain⟨f4,L4,b4⟩:=ZVk s hs;rw[Z5 (f:=25) rfl rfl,e];cases c0:Jq (Qp s)with
 |false=>simp only[go_sem,c25,hu,hp,hn,c0,ZWo,ZWq,ZWp,ZWr,ZWt,if_false,if_true]
 |true=>
 cases c1:WK s with
 |false=>simp only[go_sem,c25,hu,hp,hn,c0,c1,ZWo,ZWq,ZWp,ZWr,ZWt,if_false,if_true]
 |true=>
 cases c2:Wh s.Bc with
 |false=>simp only[go_sem,c25,hu,hp,hn,c0,c1,c2,ZWo,ZWq,ZWp,ZWr,ZWt,if_false,if_true]
 |true=>
 cases d0:s.Ga.all rgR with
 |false=>rw[d0]at L0;simp only[go_sem,c25,c25L0,hu,hp,hn,c0,c1,c2,L0,b0 d0,ZWo,ZWq,ZWp,ZWr,ZWt,if_false,if_true]
 |true=>
 rw[d0]at L0;cases d1:s.Gr.all stR with
 |false=>rw[d1]at L1;simp only[go_sem,c25,c25L0,c25L1,hu,hp,hn,c0,c1,c2,L0,a0 d0,L1,b1 d1,ZWo,ZWq,ZWp,ZWr,ZWt,if_false,if_true]
 |true=>
 rw[d1]at L1;cases d2:s.By.all buR with
 |false=>rw[d2]at L2;simp only[go_sem,c25,c25L0,c25L1,c25L2,hu,hp,hn,c0,c1,c2,L0,a0 d0,L1,a1 d1,L2,b2 d2,ZWo,ZWq,ZWp,ZWr,ZWt,if_false,if_true]
 |true=>
 rw[d2]at L2;cases d3:Zu (ZOM s) 0 s.Bc with
 |false=>rw[d3]at L3;simp only[go_sem,c25,c25L0,c25L1,c25L2,c25L3,hu,hp,hn,c0,c1,c2,L0,a0 d0,L1,a1 d1,L2,a2 d2,L3,b3 d3,ZWo,ZWq,ZWp,ZWr,ZWt,if_false,if_true]
 |true=>
 rw[d3]at L3;cases d4:s.Nk.all (ZOD s)with
 |false=>rw[d4]at L4;simp only[go_sem,c25,c25L0,c25L1,c25L2,c25L3,c25L4,hu,hp,hn,c0,c1,c2,L0,a0 d0,L1,a1 d1,L2,a2 d2,L3,a3 d3,L4,b4 d4,ZWo,ZWq,ZWp,ZWr,ZWt,if_false,if_true]
 |true=>
 rw[d4]at L4;simp only[go_sem,c25,c25L0,c25L1,c25L2,c25L3,c25L4,hu,hp,hn,c0,c1,c2,L0,a0 d0,L1,a1 d1,L2,a2 d2,L3,a3 d3,L4,ZWo,ZWq,ZWp,ZWr,ZWt,if_false,if_true]
def ZOn(x:Str)(st:List Str×Bool)(y:Str):List Str×Bool:=
 (bif Z3 y x then(bif !st.2&&!WW y x then st.1++[x]else st.1)else(bif !st.2&&!WW y x then st.1++[x]else st.1)++[y],st.2||!WW y x)
def ZO9(x:Str)(l:List Str)(i:Nat):List Str×Bool:=(l.take i).foldl (ZOn x) ([],false)
def ZOE(x:Str)(l:List Str):List Str:=bif (ZO9 x l l.length).2 then(ZO9 x l l.length).1 else(ZO9 x l l.length).1++[x]
def ZQr{x y:Str}{l:List Str}{i:Nat}(h:l[i]?=some y):ZO9 x l (i+1)=ZOn x (ZO9 x l i) y:=by
 unfold ZO9;rw[Us _ _ h]
def ZQs(x:Str)(l:List Str):∀i,i<=l.length->(ZO9 x l i).1.length<=2*i
 |0,_=>by simp[ZO9]
 |i+1,h=>by
  obtain⟨y,hy⟩:∃y,l[i]?=some y:=⟨_,ZWu<|by omega⟩
  have ih:=ZQs x l i<|by omega
  rw[ZQr hy];unfold ZOn;cases Z3 y x<;>cases !(ZO9 x l i).2&&!WW y x<;>simp<;>omega
def ZSc(ex:Bool)(l:List Str)(x:Str)(hl:l.length<=100000):pfn rE 118 [.isl false ex 1<|l.map encS,.str x]=some (.isl false false 1<|(ZOE x l).map encS):=by
 have hbS:∀n(K:List Str),Zd n (K.map encS)=true:=λn K=>ZN _<|Zw (λt=>rfl) K
 have ha:∀(K:List Str)(z:Str),K.length<=1000000->appW [.row 1<|K.map encS] false 1 16 (.sl 0 K.length 0 K.length false) (.isl false false 1 [.str z])=some (.sl 0 (K++[z]).length 0 (K++[z]).length false,[.row 1<|(K++[z]).map encS]):=λK z hK=>by
  have h:=XC (h:=[.row 1<|K.map encS]) (fz:=false) (b:=0) (g:=K.length) (sz:=1) (es:=K.map encS) (bw:=false) (ex:=false) (ys:=[.str z]) (bytes:=16) (by simp[rowAt]) rfl (by rfl) (by omega) (by omega) (by simp;omega)
  rw[h,ZWz,ZWM];rfl
 have L:=Y8 (E:=rE) (live:=[0,1,5,6,7]) (b:=c118L0b) l.length (λi=>[(0,.isl false ex 1<|l.map encS),(1,.str x),(5,.sl 0 (ZO9 x l i).1.length 0 (ZO9 x l i).1.length false),(6,.bool (ZO9 x l i).2),(7,I i)])
  (λi=>[.row 1<|(ZO9 x l i).1.map encS]) (λi=>rfl)
  (λi hi=>by
   obtain⟨y,hy⟩:∃y,l[i]?=some y:=⟨_,ZWu hi⟩;have hg:=Z6 (f:=encS) hy;have hi':=Zh hi;have hw:=Zx (n:=i)<|by omega
   have hlen:=ZQs x l i<|by omega
   rw[ZQr hy];generalize ZO9 x l i=st at hlen⊢;obtain⟨K,d⟩:=st;have h1:=ha K x<|by simp at hlen;omega
   have h2:=ha K y<|by simp at hlen;omega
   have h3:=ha (K++[x]) y<|by simp at hlen⊢;omega
   have e1:(K++[x]).length=K.length+1:=by simp
   rw[e1]at h3;unfold ZOn;dsimp only;cases d with
   |true=>
    cases c2:Z3 y x<;>refine⟨_,by simp only[go_sem,c118L0b,hg,hi',hw,encS,h1,h2,c2,hbS,ZWm,ZWo,ZWq,ZWr,ZWC,ZWB];rfl,?_⟩<;>simp only[go_sem,ZWo,ZWr,ZWC]
   |false=>
    cases c1:WW y x with
    |true=>
     cases c2:Z3 y x<;>refine⟨_,by simp only[go_sem,c118L0b,hg,hi',hw,encS,h1,h2,c1,c2,hbS,ZWm,ZWo,ZWq,ZWw,ZWp,ZWB];rfl,?_⟩<;>simp only[go_sem,ZWo,ZWq,ZWw,ZWp,ZWB]
    |false=>
     cases c2:Z3 y x<;>refine⟨_,by simp only[go_sem,c118L0b,hg,hi',hw,encS,h1,h3,c1,c2,hbS,ZWm,ZWo,ZWq,ZWv,ZWp,ZWB];rfl,?_⟩<;>simp only[go_sem,ZWq,ZWv,ZWB])
  (e:=.exit 0) (by simp only[go_sem,c118L0b,ZG,ZWm];rfl) (by simp)
 have L':Zg rE [0,1,5,6,7] c118L0b [(0,.isl false ex 1<|l.map encS),(1,.str x),(5,.sl 0 0 0 0 false),(6,.bool false),(7,.int .i64 0)] [.row 1 []]=_:=L;have hlen:=ZQs x l l.length<|ZWs _;rw[Z5 (f:=118) rfl rfl];unfold ZOE;generalize ZO9 x l l.length=st at hlen L'⊢;obtain⟨K,d⟩:=st;have h1:=ha K x<|by simp at hlen;omega
 have hct:∀K:List Str,Z4 (K.map encS)=true:=λK=>Zw (λt=>rfl) K
 have htk:∀K:List Str,List.take K.length (K.map encS)=K.map encS:=λK=>ZWL<|by simp
 have htk2:List.take (K.length+1) ((K++[x]).map encS)=(K++[x]).map encS:=ZWL<|by simp
 cases d<;>simp only[go_sem,c118,c118L0,L',h1,hbS,hct,htk,htk2,beq_self_eq_true,ZWo,ZWq]
def ltE(x:Endz)(y:Endz):Bool:=WW y.Id x.Id
def ZOb(x:Endz)(l:List Endz):List Endz:=l.takeWhile (ltE x)++x::l.dropWhile (ltE x)
def ZSd{α:Type}(p:α->Bool):∀(l:List α),l.take (l.takeWhile p).length=l.takeWhile p/\l.drop (l.takeWhile p).length=l.dropWhile p/\(l.takeWhile p).length<=l.length
 |[]=>by simp
 |a::r=>by
  obtain⟨h1,h2,h3⟩:=ZSd p r;rw[ZZa,List.dropWhile_cons];cases p a with
  |true=>simp[h1,h2,h3]
  |false=>simp
def ZSe{α:Type}(p:α->Bool):∀(l:List α)(i:Nat)(x:α),l[i]?=some x->i<(l.takeWhile p).length->p x=true
 |[],i,x,h,_=>by simp at h
 |a::r,i,x,h,hi=>by
  rw[ZZa]at hi;cases hp:p a with
  |false=>rw[hp]at hi;simp at hi
  |true=>
   rw[hp]at hi;cases i with
   |zero=>simp at h;subst h;exact hp
   |succ i=>simp at h hi;exact ZSe p r i x h hi
def ZSf{α:Type}(p:α->Bool):∀(l:List α)(x:α),l[(l.takeWhile p).length]?=some x->p x=false
 |[],x,h=>by simp at h
 |a::r,x,h=>by
  rw[ZZa]at h;cases hp:p a with
  |false=>rw[hp]at h;simp at h;subst h;exact hp
  |true=>rw[hp]at h;simp at h;exact ZSf p r x h
def ZSg(ex:Bool)(l:List Endz)(x:Endz)(hl:l.length<=100000):pfn rE 119 [.isl false ex 3<|l.map Endz.enc,x.enc]=some (.isl false false 3<|(ZOb x l).map Endz.enc):=by
 have hbS:∀n(K:List Endz),Zd n (K.map Endz.enc)=true:=λn K=>ZN _<|Zw (λt=>rfl) K
 have hct:∀K:List Endz,Z4 (K.map Endz.enc)=true:=λK=>Zw (λt=>rfl) K
 have htk:∀(K:List Endz)(n:Nat),K.length=n->List.take n (K.map Endz.enc)=K.map Endz.enc:=λK n h=>ZWL<|by simp[h]
 obtain⟨t1,t2,t3⟩:=ZSd (ltE x) l;have ha:∀(K:List Endz)(z:Endz),K.length<=1000000->appW [.row 3<|K.map Endz.enc] false 3 32 (.sl 0 K.length 0 K.length false) (.isl false false 3 [.agg [.str z.Id,I z.bq,I z.Day]])=some (.sl 0 (K.length+1) 0 (K.length+1) false,[.row 3<|(K++[z]).map Endz.enc]):=λK z hK=>by
  have h:=XC (h:=[.row 3<|K.map Endz.enc]) (fz:=false) (b:=0) (g:=K.length) (sz:=3) (es:=K.map Endz.enc) (bw:=false) (ex:=false) (ys:=[.agg [.str z.Id,I z.bq,I z.Day]]) (bytes:=32) (by simp[rowAt]) rfl (by rfl) (by omega) (by omega) (by simp;omega)
  rw[h,ZWM];rfl
 have L:=Y8 (E:=rE) (live:=[0,3,5,6]) (b:=c119L0b) (l.takeWhile<|ltE x).length (λi=>[(0,.isl false ex 3<|l.map Endz.enc),(3,.iptr false [.str x.Id,I x.bq,I x.Day]),(5,.sl 0 i 0 i false),(6,I i)])
  (λi=>[.row 3<|(l.take i).map Endz.enc]) (λi=>rfl)
  (λi hi=>by
   obtain⟨y,hy⟩:∃y,l[i]?=some y:=⟨_,ZWu<|by omega⟩
   have hg:=Z6 (f:=Endz.enc) hy;have hi':=Zh<|Z7 hy;have hw:=Zx (n:=i)<|by omega
   have hp:WW y.Id x.Id=true:=ZSe (ltE x) l i y hy hi;have hlen:=take_len hy;have h1:=ha (l.take i) y<|by omega
   rw[hlen]at h1;have e:l.take i++[y]=l.take (i+1):=by rw[ZY9,hy];rfl
   rw[e]at h1;refine⟨_,by simp only[go_sem,c119L0b,hg,hi',hw,Endz.enc,hp,h1,hbS,ZWm];rfl,?_⟩
   simp only[go_sem])
  (e:=.exit 0) (fr:=[(0,.isl false ex 3<|l.map Endz.enc),(3,.iptr false [.str x.Id,I x.bq,I x.Day]),(5,.sl 0 (l.takeWhile<|ltE x).length 0 (l.takeWhile<|ltE x).length false),(6,I (l.takeWhile<|ltE x).length)]) (h:=[.row 3<|(l.takeWhile<|ltE x).map Endz.enc]) (by
   rw[t1];by_cases hk:(l.takeWhile<|ltE x).length<l.length
   .obtain⟨y,hy⟩:∃y,l[(l.takeWhile<|ltE x).length]?=some y:=⟨_,ZWu hk⟩;have hg:=Z6 (f:=Endz.enc) hy;have hi':=Zh hk;have hp:WW y.Id x.Id=false:=ZSf (ltE x) l y hy;simp only[go_sem,c119L0b,hg,hi',Endz.enc,hp,hbS,ZWm]
   .have hi':decide (((l.takeWhile<|ltE x).length:Int)<(l.length:Int))=false:=decide_eq_false (by omega)
    simp only[go_sem,c119L0b,hi',hbS,ZWm]) (by simp)
 have L':Zg rE [0,3,5,6] c119L0b [(0,.isl false ex 3<|l.map Endz.enc),(3,.iptr false [.str x.Id,I x.bq,I x.Day]),(5,.sl 0 0 0 0 false),(6,.int .i64 0)] [.row 3 []]=_:=L;have h1:=ha (l.takeWhile<|ltE x) x<|by omega
 have e5:List.take (l.length-(l.takeWhile<|ltE x).length) (List.drop (l.takeWhile<|ltE x).length<|l.map Endz.enc)=(l.dropWhile<|ltE x).map Endz.enc:=by
  rw[<-List.map_drop,t2];apply ZWL;rw[ZWm,<-t2,ZYk];omega
 have e6:(l.takeWhile<|ltE x).length+(l.dropWhile<|ltE x).length=l.length:=by rw[<-ZWz,ZZn]
 have e7:(l.takeWhile (ltE x)++[x]).length=(l.takeWhile<|ltE x).length+1:=by simp
 have hR:∀eb,∃n,appW [.row 3<|(l.takeWhile (ltE x)++[x]).map Endz.enc] false 3 32 (.sl 0 ((l.takeWhile<|ltE x).length+1) 0 ((l.takeWhile<|ltE x).length+1) false) (.isl false eb 3<|(l.dropWhile<|ltE x).map Endz.enc) =
  some (.sl 0 n 0 n false,[.row 3<|(ZOb x l).map Endz.enc])/\n=(ZOb x l).length:=λeb=>by
  cases hd:l.dropWhile (ltE x)with
  |nil=>
   have h:=Z9Z (h:=[.row 3<|(l.takeWhile (ltE x)++[x]).map Endz.enc]) (sz:=3) (bytes:=32) (s:=.sl 0 ((l.takeWhile<|ltE x).length+1) 0 ((l.takeWhile<|ltE x).length+1) false) (es:=(l.takeWhile (ltE x)++[x]).map Endz.enc) (bw:=false) (ex:=eb) (fz:=false)
    (by simp[Q2];exact ZWL<|by simp) (by simp[Qq]) (by omega) (by omega) (by simp;omega)
   refine⟨_,by rw[ZX6,h];unfold ZOb;rw[hd],?_⟩
   unfold ZOb;rw[hd];simp
  |cons y r=>
   have h:=XC (h:=[.row 3<|(l.takeWhile (ltE x)++[x]).map Endz.enc]) (fz:=false) (b:=0) (g:=(l.takeWhile<|ltE x).length+1) (sz:=3) (es:=(l.takeWhile (ltE x)++[x]).map Endz.enc) (bw:=false) (ex:=eb) (ys:=(y::r).map Endz.enc) (bytes:=32) (by simp[rowAt]) rfl (by rw[ZYw];exact ZWF.2 λz _=>rfl) (by omega) (by omega) (by rw[hd]at e6;simp at e6⊢;omega)
   refine⟨_,by rw[h];unfold ZOb;rw[hd,<-ZWM,ZWW];rfl,?_⟩
   unfold ZOb;rw[hd];simp;omega
 obtain⟨n,hA,hn⟩:=hR<|ex&&l.length==l.length;have ht:=htk (ZOb x l) n hn.symm;have e8:ZOb x l=l.takeWhile (ltE x)++x::l.dropWhile (ltE x):=rfl;have hln:((ZOb x l).length==n)=true:=by rw[hn];exact beq_self_eq_true _
 rw[Z5 (f:=119) rfl rfl];rw[beq_self_eq_true,ZWv]at hA;generalize ZOb x l=R at hA hn ht hln⊢;simp only[go_sem,c119,c119L0,Endz.enc,L',h1,hbS,hct,DS t3,e5,beq_self_eq_true,ZWv,hA,hln,ht]
def ZOc(M:List Bool):Hp:=[.row 1<|M.map AV.bool]
def mkS(s:Sta)(M:List Bool)(id:Str):List Bool:=M.set (Zn s id).toNat true
def mkL(s:Sta)(M:List Bool)(l:List Str):List Bool:=l.foldl (mkS s) M
def cmS(s:Sta)(M:List Bool)(i:Nat):List Bool:=match s.Bc[i]? with
 |some d=>bif M.getD i false then mkL s M d.After.l else M
 |none=>M
def cmK(s:Sta)(M:List Bool)(i:Nat):List Bool:=(List.range i).foldl (cmS s) M
def ZPW(s:Sta):∀(l:List Str)(M:List Bool),(mkL s M l).length=M.length
 |[],M=>rfl
 |x::r,M=>by
  show(mkL s (mkS s M x) r).length=_
  rw[ZPW s r];unfold mkS;rw[ZXJ]
def ZPX(s:Sta)(i:Nat):∀(l:List Str)(M:List Bool),M[i]?=some true->(mkL s M l)[i]?=some true
 |[],M,h=>h
 |x::r,M,h=>by
  show(mkL s (mkS s M x) r)[i]?=_
  apply ZPX s i r;unfold mkS;rw[ZYz];have hi:=Z7 h;split
  .rw[if_pos<|by omega]
  .exact h
def ZVl(s:Sta)(M:List Bool)(i:Nat):(cmS s M i).length=M.length:=by
 unfold cmS;split
 .cases M.getD i false with
  |true=>exact ZPW _ _ _
  |false=>rfl
 .rfl
def ZPj(s:Sta)(M:List Bool)(i:Nat):cmK s M (i+1)=cmS s (cmK s M i) i:=by
 unfold cmK;rw[ZY3,ZXV];rfl
def ZPt(s:Sta)(M:List Bool):∀i,(cmK s M i).length=M.length
 |0=>rfl
 |i+1=>by rw[ZPj,ZVl,ZPt s M i]
def ZVm(s:Sta)(hs:StS s)(M:List Bool)(hM:M.length=s.Bc.length)(i:Nat)(d:Gc)(hx:s.Bc[i]?=some d)(hd:DoS d)(hA:∀id∈d.After.l,0<=Zn s id/\Zn s id<s.Bc.length)(hMi:M[i]?=some true)(k:Nat)(id:Str)(hid:d.After.l[k]?=some id):
 ∃fr',Zb rE c117L0b [(2,stI s),(5,.sl 0 s.Bc.length 0 s.Bc.length true),(6,I i),(7,I k)] (ZOc M)=some (.normal,fr',ZOc<|mkS s M id)/\Z2 [2,5,6,7] fr'=[(2,stI s),(5,.sl 0 s.Bc.length 0 s.Bc.length true),(6,I i),(7,I (k+1:Nat))]:=by
 have hk:=Z7 hid;obtain⟨a1,a2⟩:=hA id<|ZWA hid;have hg:=Z6 (f:=Gc.enc) hx;rw[show Gc.enc d=Zo d from rfl]at hg
 unfold Zo at hg;have hgk:=Z6 (f:=encS) hid;have hlk:=Zh hk;have hw:=Zx (n:=k) (by have:=hd.after;omega)
 have hf:=ZOK s hs id;have n1:((i:Int)).toNat=i:=rfl;have hil:=Z7 hx;have z1:=λes=>VT 0 s.Bc.length 0 1 (i:Int) s.Bc.length es ⟨by omega,by omega⟩
 have z2:=λes=>VT 0 s.Bc.length 0 1 (Zn s id) s.Bc.length es ⟨a1,a2⟩
 have hml:(M.map AV.bool).length=s.Bc.length:=by rw[ZWm,hM]
 have hmi:(M.map AV.bool)[i]?=some (.bool true):=Z6 (f:=AV.bool) hMi;obtain⟨b,hb⟩:∃b,M[(Zn s id).toNat]?=some b:=⟨_,ZWu<|by omega⟩
 have hmj:(M.map AV.bool)[(Zn s id).toNat]?=some (.bool b):=Z6 (f:=AV.bool) hb;have hbB:∀n,Zd n (M.map AV.bool)=true:=λn=>ZN _<|Zw (λt=>rfl) M
 have e:(M.map AV.bool).set (Zn s id).toNat (.bool true)=(mkS s M id).map AV.bool:=by unfold mkS;rw[ZYF]
 have hbB2:∀n,Zd n ((mkS s M id).map AV.bool)=true:=λn=>ZN _<|Zw (λt=>rfl) _
 unfold ZOc;refine⟨_,by simp only[go_sem,c117L0b,hg,hgk,hlk,hw,hf,n1,z1,z2,hml,hM,hmi,hmj,hbB,hbB2,e,encS,beq_self_eq_true,ZWm,ZWD,ZX1];rfl,?_⟩
 simp only[go_sem]
def ZVn(s:Sta)(hs:StS s)(M:List Bool)(hM:M.length=s.Bc.length)(i:Nat)(d:Gc)(hx:s.Bc[i]?=some d)(hd:DoS d)(hA:∀id∈d.After.l,0<=Zn s id/\Zn s id<s.Bc.length):
 ∃fr',Zg rE [2,5,6,7] c117L0b [(2,stI s),(5,.sl 0 s.Bc.length 0 s.Bc.length true),(6,I i),(7,.int .i64 0)] (ZOc M)=some (.exit 2,fr',ZOc<|cmS s M i)/\get fr' 2=stI s/\get fr' 5=.sl 0 s.Bc.length 0 s.Bc.length true/\get fr' 6=I i:=by
 have hil:=Z7 hx;have hg:=Z6 (f:=Gc.enc) hx;rw[show Gc.enc d=Zo d from rfl]at hg
 unfold Zo at hg;have n1:((i:Int)).toNat=i:=rfl;have z1:=λes=>VT 0 s.Bc.length 0 1 (i:Int) s.Bc.length es ⟨by omega,by omega⟩
 have hcm:cmS s M i=bif M.getD i false then mkL s M d.After.l else M:=by unfold cmS;rw[hx]
 have stop:∀(M':List Bool)(k:Nat),M'.length=s.Bc.length->(M'[i]?=some false\/d.After.l.length<=k)->∃fr',Zb rE c117L0b [(2,stI s),(5,.sl 0 s.Bc.length 0 s.Bc.length true),(6,I i),(7,I k)] (ZOc M')=some (.exit 2,fr',ZOc M')/\get fr' 2=stI s/\get fr' 5=.sl 0 s.Bc.length 0 s.Bc.length true/\get fr' 6=I i:=λM' k hM' hc=>by
  have hml:(M'.map AV.bool).length=s.Bc.length:=by rw[ZWm,hM']
  have hbB:∀n,Zd n (M'.map AV.bool)=true:=λn=>ZN _<|Zw (λt=>rfl) M'
  obtain⟨b,hb⟩:∃b,M'[i]?=some b:=⟨_,ZWu<|by omega⟩
  have hmi:(M'.map AV.bool)[i]?=some (.bool b):=Z6 (f:=AV.bool) hb;unfold ZOc;cases b with
  |false=>
   refine⟨_,by simp only[go_sem,c117L0b,n1,z1,hml,hM',hmi,hbB,beq_self_eq_true,ZWm,ZWD,ZX1];rfl,?_,?_,?_⟩<;>simp only[go_sem]
  |true=>
   have hk:d.After.l.length<=k:=by
    rcases hc with h|h
    .rw[hb]at h;cases h
    .exact h
   have hlk:decide ((k:Int)<(d.After.l.length:Int))=false:=decide_eq_false<|by omega
   refine⟨_,by simp only[go_sem,c117L0b,hg,hlk,n1,z1,hml,hM',hmi,hbB,beq_self_eq_true,ZWm,ZWD,ZX1];rfl,?_,?_,?_⟩<;>simp only[go_sem]
 rw[hcm];cases hb:M.getD i false with
 |false=>
  have hMi:M[i]?=some false:=by
   rw[ZXM]at hb;have h:=ZWu (l:=M) (i:=i)<|by omega
   rw[h]at hb⊢;exact congrArg some hb
  obtain⟨fr',h1,h2⟩:=stop M 0 hM<|Or.inl hMi;exact⟨fr',Q7 rfl h1 (by simp),h2⟩
 |true=>
  have hMi:M[i]?=some true:=by
   rw[ZXM]at hb;have h:=ZWu (l:=M) (i:=i)<|by omega
   rw[h]at hb⊢;exact congrArg some hb
  have hmk:∀k,(mkL s M<|d.After.l.take k).length=s.Bc.length/\(mkL s M<|d.After.l.take k)[i]?=some true:=λk=>⟨by rw[ZPW,hM],ZPX s i _ M hMi⟩
  have hend:d.After.l.take d.After.l.length=d.After.l:=ZWR;obtain⟨fr',h1,h2⟩:=stop (mkL s M d.After.l) d.After.l.length (by rw[ZPW,hM])<|Or.inr<|ZWs _
  have L:=Y8 (E:=rE) (live:=[2,5,6,7]) (b:=c117L0b) d.After.l.length (λk=>[(2,stI s),(5,.sl 0 s.Bc.length 0 s.Bc.length true),(6,I i),(7,I k)]) (λk=>ZOc<|mkL s M<|d.After.l.take k) (λk=>rfl)
   (λk hk=>by
    obtain⟨id,hid⟩:∃x,d.After.l[k]?=some x:=⟨_,ZWu hk⟩;have e:mkL s M (d.After.l.take<|k+1)=mkS s (mkL s M<|d.After.l.take k) id:=by
     unfold mkL;rw[Us _ _ hid]
    obtain⟨g1,g2⟩:=hmk k;have h:=ZVm s hs (mkL s M<|d.After.l.take k) g1 i d hx hd hA g2 k id hid;rw[e];exact h)
   (e:=.exit 2) (fr:=fr') (h:=ZOc<|mkL s M d.After.l) (by rw[hend];exact h1) (by simp)
  exact⟨fr',L,h2⟩
def ZVo{E:Env}{d:Option Nat}{x y:Arg}{r:List AOper}{fr:Fr}{h:Hp}{n:Nat}(hx:ev E fr x=.int .i64 n)(hy:ev E fr y=.int .i64 n)(hn:n<=1000000):Z9 E (⟨d,.mks 1 (.bool false) 1 x y,none⟩::r) fr h=Z9 E r (ZB fr d<|.sl h.length n 0 n true) (h++[.row 1<|List.replicate n<|.bool false]):=by
 have e:(0<=(n:Int)/\(n:Int)<=(n:Int)/\(n:Int)*((1:Nat):Int)<=140737488355328/\(n:Int)<9223372036854775807/\fits 1 (.bool false)=true/\0<1):=⟨by omega,by omega,by omega,by omega,rfl,by omega⟩
 have e':(0<=(n:Int)/\(n:Int)<=(n:Int)/\(n:Int)*((1:Nat):Int)<=70368744177664/\(n:Int)<9223372036854775807/\fits 1 (.bool false)=true/\0<1):=⟨by omega,by omega,by omega,by omega,rfl,by omega⟩
 have key:=X9 (E:=E) (d:=d) (op:=.mks 1 (.bool false) 1 x y) (r:=r) (fr:=fr) (h:=h) (v:=some (.sl h.length n 0 n true,h++[.row 1<|List.replicate n<|.bool false])) rfl (by
 simp only[Z8,hx,hy];first|rw[if_pos e]|rw[if_pos e']
 simp only[ZM,ZH,J1,ZXR,beq_self_eq_true])
 exact key
def ZPu(s:Sta):Prop:=∀d∈s.Bc,∀id∈d.After.l,0<=Zn s id/\Zn s id<s.Bc.length
def ZVp(s:Sta)(hs:StE s)(hA:ZPu s)(M:List Bool)(hM:M.length=s.Bc.length):
 ∃fr',Zg rE [2,5,6] c117L1b [(2,stI s),(5,.sl 0 s.Bc.length 0 s.Bc.length true),(6,.int .i64 0)] (ZOc M)=some (.exit 0,fr',ZOc<|cmK s M s.Bc.length)/\get fr' 5=.sl 0 s.Bc.length 0 s.Bc.length true:=by
 have hbB:∀n(M:List Bool),Zd n (M.map AV.bool)=true:=λn M=>ZN _<|Zw (λt=>rfl) M
 have hl:=hs.sizes.doors;have hend:∃fr',Zb rE c117L1b [(2,stI s),(5,.sl 0 s.Bc.length 0 s.Bc.length true),(6,I s.Bc.length)] (ZOc<|cmK s M s.Bc.length)=some (.exit 0,fr',ZOc<|cmK s M s.Bc.length)/\get fr' 5=.sl 0 s.Bc.length 0 s.Bc.length true:=by
  unfold ZOc;refine⟨_,by simp only[go_sem,c117L1b,ZG,hbB,ZWm];rfl,?_⟩
  simp only[go_sem]
 obtain⟨fr',h1,h2⟩:=hend;have L:=Y8 (E:=rE) (live:=[2,5,6]) (b:=c117L1b) s.Bc.length (λi=>[(2,stI s),(5,.sl 0 s.Bc.length 0 s.Bc.length true),(6,I i)]) (λi=>ZOc<|cmK s M i) (λi=>rfl)
  (λi hi=>by
   obtain⟨d,hx⟩:∃x,s.Bc[i]?=some x:=⟨_,ZWu hi⟩;have hm:=ZWA hx;obtain⟨fr',h1,g2,g5,g6⟩:=ZVn s hs.sizes (cmK s M i) (by rw[ZPt,hM]) i d hx (hs.doors d hm)<|hA d hm
   have hlt:=Zh hi;have hw:=Zx (n:=i)<|by omega
   rw[ZPj];generalize cmS s (cmK s M i) i=M2 at h1⊢;generalize cmK s M i=M1 at h1⊢;unfold ZOc at h1⊢;refine⟨_,by simp only[go_sem,c117L1b,c117L0,hlt,hw,hbB,h1,g2,g5,g6,ZWm];rfl,?_⟩
   simp only[go_sem])
  (e:=.exit 0) (fr:=fr') (h:=ZOc<|cmK s M s.Bc.length) h1 (by simp)
 exact⟨fr',L,h2⟩
def ZOd(s:Sta)(id:Str):List Bool:=cmK s (mkS s (List.replicate s.Bc.length false) id) s.Bc.length
def ZQt(s:Sta)(id:Str):(ZOd s id).length=s.Bc.length:=by
 unfold ZOd mkS;rw[ZPt,ZXJ,ZY2]
def ZVq(s:Sta)(hs:StE s)(hA:ZPu s)(id:Str)(h0:0<=Zn s id)(h1:Zn s id<s.Bc.length):pfn rE 117 [stA s,.str id]=some (.isl false false 1<|(ZOd s id).map AV.bool):=by
 have hl:=hs.sizes.doors;have hM:(mkS s (List.replicate s.Bc.length false) id).length=s.Bc.length:=by unfold mkS;rw[ZXJ,ZY2]
 obtain⟨fr',L,g5⟩:=ZVp s hs hA _ hM;have hlen:=ZQt s id;have hbB:∀n(M:List Bool),Zd n (M.map AV.bool)=true:=λn M=>ZN _<|Zw (λt=>rfl) M
 have hcB:∀(M:List Bool),Z4 (M.map AV.bool)=true:=λM=>Zw (λt=>rfl) M
 have hf:=ZOK s hs.sizes id;have z2:=λes=>VT 0 s.Bc.length 0 1 (Zn s id) s.Bc.length es ⟨h0,h1⟩
 have hr:List.replicate s.Bc.length (AV.bool false)=(List.replicate s.Bc.length false).map AV.bool:=by rw[List.map_replicate]
 have hj:((List.replicate s.Bc.length false).map AV.bool)[(Zn s id).toNat]?=some (.bool false):=Z6 (f:=AV.bool)<|by rw[ZYd,if_pos<|by omega]
 have e:((List.replicate s.Bc.length false).map AV.bool).set (Zn s id).toNat (.bool true)=(mkS s (List.replicate s.Bc.length false) id).map AV.bool:=by unfold mkS;rw[ZYF]
 have hb0:∀n,Zd n (List.replicate s.Bc.length<|AV.bool false)=true:=λn=>by rw[hr];exact hbB n _
 unfold ZOc at L;rw[show cmK s (mkS s (List.replicate s.Bc.length false) id) s.Bc.length=ZOd s id from rfl]at L
 generalize mkS s (List.replicate s.Bc.length false) id=M1 at L e hM;generalize ZOd s id=M2 at L hlen⊢;have hnn:(0<=(s.Bc.length:Int))=True:=by simp
 have ht:List.take s.Bc.length (M2.map AV.bool)=M2.map AV.bool:=ZWL<|by simp[hlen]
 have hmk:=λ(fr:Fr)(hx:ev rE fr (.t 10)=.int .i64 s.Bc.length)(d:Option Nat)(r:List AOper)=>ZVo (E:=rE) (d:=d) (r:=r) (h:=[]) hx hx<|by omega
 rw[Z5 (f:=117) rfl rfl];simp only[go_sem,hmk,c117,c117L1,hf,z2,hr,hj,e,hM,hlen,L,g5,hbB,hcB,hb0,hnn,ht,ZWm,ZY2,beq_self_eq_true,ZWD,ZX1,if_true]
 done
def faS(s:Sta)(M:List Bool)(st:List Str×List Endz)(i:Nat):List Str×List Endz:=match s.Bc[i]? with
 |some d=>bif !M.getD i false||decide (Yf d>0)then st else bif d.Ld==-1 then(ZOE d.Id st.1,st.2)else(st.1,ZOb ⟨d.Id,d.Why,d.Ld⟩ st.2)
 |none=>st
def faK(s:Sta)(M:List Bool)(i:Nat):List Str×List Endz:=(List.range i).foldl (faS s M) ([],[])
def ZQu(s:Sta)(M:List Bool)(i:Nat):faK s M (i+1)=faS s M (faK s M i) i:=by
 unfold faK;rw[ZY3,ZXV];rfl
def ZSh(x:Str)(l:List Str):∀i,i<=l.length->(ZO9 x l i).1.length<=i+cond (ZO9 x l i).2 1 0
 |0,_=>by simp[ZO9]
 |i+1,h=>by
  obtain⟨y,hy⟩:∃y,l[i]?=some y:=⟨_,ZWu<|by omega⟩
  have ih:=ZSh x l i<|by omega
  rw[ZQr hy];generalize ZO9 x l i=st at ih⊢;obtain⟨K,d⟩:=st;unfold ZOn;dsimp only at ih⊢;cases Z3 y x<;>cases d<;>cases WW y x<;>simp at ih⊢<;>omega
def ZSi(x:Str)(l:List Str):(ZOE x l).length<=l.length+1:=by
 have h:=ZSh x l l.length<|ZWs _;unfold ZOE;generalize ZO9 x l l.length=st at h⊢;obtain⟨K,d⟩:=st;cases d<;>simp at h⊢<;>omega
def ZVr(x:Endz)(l:List Endz):(ZOb x l).length=l.length+1:=by
 unfold ZOb;have h:(l.takeWhile<|ltE x).length+(l.dropWhile<|ltE x).length=l.length:=by rw[<-ZWz,ZZn]
 rw[ZWz,ZWH];omega
def ZQv(s:Sta)(M:List Bool):∀i,(faK s M i).1.length<=i/\(faK s M i).2.length<=i
 |0=>⟨ZWs _,ZWs _⟩
 |i+1=>by
  obtain⟨h1,h2⟩:=ZQv s M i;rw[ZQu];generalize faK s M i=st at h1 h2⊢;unfold faS;split
  .rename_i d _;have h3:=ZSi d.Id st.1;have h4:=ZVr ⟨d.Id,d.Why,d.Ld⟩ st.2;cases !M.getD i false||decide (Yf d>0)with
   |true=>exact⟨by simp only[cond_true];omega,by simp only[cond_true];omega⟩
   |false=>
    cases d.Ld==-1 with
    |true=>exact⟨by simp only[cond_true,cond_false];omega,by simp only[cond_true,cond_false];omega⟩
    |false=>exact⟨by simp only[cond_false];omega,by simp only[cond_false];omega⟩
  .exact⟨by omega,by omega⟩
def faH(st:List Str×List Endz):Hp:=[.row 2 [.agg [.isl false false 1 [],.isl false false 3 []]],.row 2 [.agg [.isl false false 1<|st.1.map encS,.isl false false 3<|st.2.map Endz.enc]]]
def faF(s:Sta)(M:List Bool)(i:Nat):Fr:=[(2,stI s),(4,.ptr 0 0 0 1),(6,.isl false false 1<|M.map AV.bool),(7,.ptr 1 0 0 1),(8,I i)]
def ZVs(s:Sta)(hs:StE s)(M:List Bool)(hM:M.length=s.Bc.length)(st:List Str×List Endz)(hD:st.1.length<=100000)(hE:st.2.length<=100000)(i:Nat)(hi:i<s.Bc.length):
 ∃fr',Zb rE c60L0b (faF s M i) (faH st)=some (.normal,fr',faH<|faS s M st i)/\Z2 [2,4,6,7,8] fr'=faF s M (i+1):=by
 obtain⟨d,hx⟩:∃x,s.Bc[i]?=some x:=⟨_,ZWu hi⟩;have hl:=hs.sizes.doors;have hg:=Z6 (f:=Gc.enc) hx;rw[show Gc.enc d=Zo d from rfl]at hg
 unfold Zo at hg;obtain⟨b,hb⟩:∃b,M[i]?=some b:=⟨_,ZWu<|by omega⟩
 have hmb:=Z6 (f:=AV.bool) hb;have hgd:M.getD i false=b:=by rw[ZXM,hb];rfl
 have hlt:decide ((i:Int)<(M.length:Int))=true:=decide_eq_true<|by omega
 have hw:=Zx (n:=i)<|by omega
 have en:(d.After.l.length:Int)=Yf d:=rfl;obtain⟨D,E⟩:=st;have hp:=ZSc false D d.Id hD;have he:=ZSg false E ⟨d.Id,d.Why,d.Ld⟩ hE;unfold Endz.enc at he;have he':pfn rE 119 [.isl false false 3<|E.map Endz.enc,.agg [.str d.Id,I d.Why,I d.Ld]]=some (.isl false false 3<|(ZOb ⟨d.Id,d.Why,d.Ld⟩ E).map Endz.enc):=ZSg false E ⟨d.Id,d.Why,d.Ld⟩ hE;have hcS:∀K:List Str,Z4 (K.map encS)=true:=λK=>Zw (λt=>rfl) K
 have hcE:∀K:List Endz,Z4 (K.map Endz.enc)=true:=λK=>Zw (λt=>rfl) K
 have hbS:∀n(K:List Str),Zd n (K.map encS)=true:=λn K=>ZN _<|hcS K
 have hbE:∀n(K:List Endz),Zd n (K.map Endz.enc)=true:=λn K=>ZN _<|hcE K
 unfold faS;rw[hx];dsimp only;rw[hgd];unfold faH faF;cases b with
 |false=>
  refine⟨_,by simp only[go_sem,c60L0b,hg,hmb,hlt,hw,hbS,hbE,hcS,hcE,ZWm,ZWq,ZWC];rfl,?_⟩
  simp only[go_sem]
 |true=>
  cases c1:decide (Yf d>0)with
  |true=>
   refine⟨_,by simp only[go_sem,c60L0b,hg,hmb,hlt,hw,en,c1,hbS,hbE,hcS,hcE,ZWm,ZWo,ZWB];rfl,?_⟩
   simp only[go_sem]
  |false=>
   cases c2:(d.Ld==-1)with
   |true=>
    refine⟨_,by simp only[go_sem,c60L0b,hg,hmb,hlt,hw,en,c1,c2,hp,hbS,hbE,hcS,hcE,ZWm,ZWo,ZWB];rfl,?_⟩
    simp only[go_sem]
   |false=>
    refine⟨_,by simp only[go_sem,c60L0b,hg,hmb,hlt,hw,en,c1,c2,he',hbS,hbE,hcS,hcE,ZWm,ZWo,ZWB];rfl,?_⟩
    simp only[go_sem]
def ZVt(s:Sta)(hs:StE s)(M:List Bool)(hM:M.length=s.Bc.length):
 ∃fr',Zg rE [2,4,6,7,8] c60L0b (faF s M 0) (faH ([],[]))=some (.exit 0,fr',faH<|faK s M s.Bc.length)/\get fr' 4=.ptr 0 0 0 1/\get fr' 7=.ptr 1 0 0 1:=by
 have hl:=hs.sizes.doors;have hcS:∀K:List Str,Z4 (K.map encS)=true:=λK=>Zw (λt=>rfl) K
 have hcE:∀K:List Endz,Z4 (K.map Endz.enc)=true:=λK=>Zw (λt=>rfl) K
 have hend:∃fr',Zb rE c60L0b (faF s M s.Bc.length) (faH<|faK s M s.Bc.length)=some (.exit 0,fr',faH<|faK s M s.Bc.length)/\get fr' 4=.ptr 0 0 0 1/\get fr' 7=.ptr 1 0 0 1:=by
  have hlt:decide ((s.Bc.length:Int)<(M.length:Int))=false:=decide_eq_false<|by omega
  unfold faH faF;refine⟨_,by simp only[go_sem,c60L0b,hlt,hcS,hcE,ZWm];rfl,?_,?_⟩<;>simp only[go_sem]
 obtain⟨fr',h1,h2⟩:=hend;have L:=Y8 (E:=rE) (live:=[2,4,6,7,8]) (b:=c60L0b) s.Bc.length (faF s M) (λi=>faH<|faK s M i) (λi=>rfl)
  (λi hi=>by
   obtain⟨b1,b2⟩:=ZQv s M i;rw[ZQu];exact ZVs s hs M hM _ (by omega) (by omega) i hi)
  (e:=.exit 0) (fr:=fr') (h:=faH<|faK s M s.Bc.length) h1 (by simp)
 exact⟨fr',L,h2⟩
def ZP8(s:Sta)(id:Str):List Str×List Endz:=faK s (ZOd s id) s.Bc.length
def ZVu(s:Sta)(hs:StR s)(id:Str)(hp:Jx s=true)(hA:ZPu s)(h0:0<=Zn s id)(h1:Zn s id<s.Bc.length):pfn rE 60 [stA s,.str id]=some (.tup [ftA false false (ZP8 s id).1 (ZP8 s id).2,I 0]):=by
 have hP:=ZP7 s hs;have hf:=ZOK s hs.toStE.sizes id;have hc:=ZVq s hs.toStE hA id h0 h1;obtain⟨fr',L,g4,g7⟩:=ZVt s hs.toStE (ZOd s id)<|ZQt s id;have hcS:∀K:List Str,Z4 (K.map encS)=true:=λK=>Zw (λt=>rfl) K
 have hcE:∀K:List Endz,Z4 (K.map Endz.enc)=true:=λK=>Zw (λt=>rfl) K
 have hn:decide (Zn s id<0)=false:=decide_eq_false<|by omega
 rw[show faK s (ZOd s id) s.Bc.length=ZP8 s id from rfl]at L
 generalize ZP8 s id=R at L⊢;generalize ZOd s id=M at L hc;have hcB:Z4 (M.map AV.bool)=true:=Zw (λt=>rfl) M
 unfold faF faH at L;have L':Zg rE [2,4,6,7,8] c60L0b [(2,stI s),(4,.ptr 0 0 0 1),(6,.isl false false 1<|M.map AV.bool),(7,.ptr 1 0 0 1),(8,.int .i64 0)] [.row 2 [.agg [.isl false false 1 [],.isl false false 3 []]],.row 2 [.agg [.isl false false 1 [],.isl false false 3 []]]]=_:=L;unfold ftA;rw[hp]at hP;rw[Z5 (f:=60) rfl rfl];simp only[go_sem,c60,c60L0,hP,hf,hc,hn,L',g4,g7,hcS,hcE,hcB,ZWo]
def ZVv(s:Sta)(hs:StR s)(id:Str)(hp:Jx s=true)(h0:Zn s id<0):pfn rE 60 [stA s,.str id]=some (.tup [ftA false false [] [],I 10]):=by
 have hP:=ZP7 s hs;have hf:=ZOK s hs.toStE.sizes id;have hn:decide (Zn s id<0)=true:=decide_eq_true h0;unfold ftA;rw[hp]at hP;rw[Z5 (f:=60) rfl rfl];simp only[go_sem,c60,hP,hf,hn,ZWo,ZX6]
def ZFi(s:Sta)(hs:StE s)(id:Str)(h:ZEb s id≠0):pfn rE 44 [stA s,.str id]=some (.tup [ftA false false [] [],I<|ZEb s id]):=by
 have hc:=Zpq s hs id;simp only[stA]at hc;have h0:(ZEb s id != 0)=true:=by rw[bne_iff_ne];exact h
 rw[Z5 (f:=44) rfl rfl];generalize ZEb s id=e at hc h0⊢;simp only[go_sem,c44,stA,hc,h0,ftA,List.map]
def ZJc{a b c:Str}(h1:ltS a b)(h2:ltS b c):ltS a c:=List.lt_trans h1 h2
def ZIV(a:Str):¬ltS a a:=List.lt_irrefl _
def ZIS{α:Type}{f:α->Str}:∀{a b:List α},a.Pairwise (λx y=>ltS (f x)<|f y)->b.Pairwise (λx y=>ltS (f x)<|f y)->(∀x,x∈a↔x∈b)->a=b
 |[],[],_,_,_=>rfl
 |[],y::s,_,_,h=>by have:=(h y).2 ZX4;cases this
 |x::r,[],_,_,h=>by have:=(h x).1 ZX4;cases this
 |x::r,y::s,ha,hb,h=>by
  rw[ZXa]at ha hb;have hxy:x=y:=by
   rcases ZWJ.1 ((h x).1 ZX4)with e|hx
   .exact e
   .rcases ZWJ.1 ((h y).2 ZX4)with e|hy
    .exact e.symm
    .exact absurd (ZJc (hb.1 x hx)<|ha.1 y hy)<|ZIV _
  subst hxy;rw[ZIS ha.2 hb.2<|λz=>?_]
  have hz:=h z;simp only[ZWJ]at hz;constructor
  .intro hr;rcases hz.1 (.inr hr)with e|hs
   .subst e;exact absurd (ha.1 z hr)<|ZIV _
   .exact hs
  .intro hr;rcases hz.2 (.inr hr)with e|hs
   .subst e;exact absurd (hb.1 z hr)<|ZIV _
   .exact hs
def ZKB{s t:Sta}{id id':Str}{D D':List Str}{E E':List Endz}(h:IsFate s id D E)(h':IsFate t id' D' E')(hD:∀x,x∈D↔x∈D')(hE:∀e,e∈E↔e∈E'):D=D'/\E=E':=
 ⟨ZIS (f:=λx=>x) h.ds h'.ds hD,ZIS (f:=λe:Endz=>e.Id) h.es h'.es hE⟩
def ZGg{a b:Endz}:ZEq a b=true↔a=b:=by
 unfold ZEq;rw[ZWn,ZWn,Ky,beq_iff_eq,beq_iff_eq];constructor
 .rintro⟨h1,h2,h3⟩;cases a;cases b;simp_all
 .rintro rfl;exact⟨rfl,rfl,rfl⟩
def ZaX(l:List Str):HK l l=true:=by
 unfold HK;rw[beq_self_eq_true,ZWp,Zda];intro j x hx;rw[ZWD,hx];exact(Ky _ _).2 rfl
def ZIe(D:List Str)(E:List Endz):HL D D E E=true:=by
 unfold HL;rw[beq_self_eq_true,ZaX,ZWp,ZWp,Zda];intro j x hx;rw[ZWD,hx];exact ZGg.2 rfl
def ZQw(s:Sta)(x:Str):Zn s x=look (λd:Gc=>d.Id) s.Bc x:=rfl
def ZPv{s:Sta}{x:Str}(h:0<=Zn s x):∃(j:Nat)(d:Gc),Zn s x=(j:Int)/\s.Bc[j]?=some d/\d.Id=x:=
 ZcU (f:=λd:Gc=>d.Id) (by rw[<-ZQw];exact decide_eq_false<|by omega)
def ZPY{s:Sta}(hp:Prop' s){i:Nat}{d:Gc}(hd:s.Bc[i]?=some d):∀x∈d.After.l,(i:Int)<Zn s x:=λx hx=>by
 have h:=((Zd0 s i d).1 (hp.dr i d hd)).2.1 x hx;have:=of_decide_eq_false h;omega
def ZSj{s:Sta}(hp:Prop' s):ZPu s:=λd hd x hx=>by
 obtain⟨i,hi⟩:=ZXF hd;have h1:=ZPY hp hi x hx;obtain⟨j,e,h2,h3,_⟩:=ZPv (s:=s) (x:=x)<|by omega
 have:=Z7 h3;exact⟨by omega,by omega⟩
def ZSk{s:Sta}{M:List Bool}{x:Str}(h:(Zn s x).toNat<M.length):(mkS s M x)[(Zn s x).toNat]?=some true:=by
 unfold mkS;rw[List.getElem?_set_self h]
def ZSl{s:Sta}{x:Str}:∀(l:List Str)(M:List Bool),x∈l->(Zn s x).toNat<M.length->(mkL s M l)[(Zn s x).toNat]?=some true
 |y::r,M,h,hl=>by
  show(mkL s (mkS s M y) r)[_]?=_
  rcases ZWJ.1 h with rfl|h
  .exact ZPX s _ r _<|ZSk hl
  .exact ZSl r _ h<|by unfold mkS;rw[ZXJ];exact hl
def ZSm{s:Sta}{k:Nat}:∀(l:List Str)(M:List Bool),(mkL s M l)[k]?=some true->M[k]?=some true\/∃x∈l,(Zn s x).toNat=k
 |[],M,h=>Or.inl h
 |y::r,M,h=>by
  rcases ZSm r (mkS s M y) h with h1|⟨x,h1,h2⟩
  .unfold mkS at h1;rw[ZYz]at h1;by_cases hk:(Zn s y).toNat=k
   .exact Or.inr ⟨y,by simp,hk⟩
   .rw[if_neg hk]at h1;exact Or.inl h1
  .exact Or.inr ⟨x,by simp[h1],h2⟩
def ZSn{s:Sta}{k:Nat}:∀(l:List Str)(M:List Bool),(∀x∈l,(k:Int)<Zn s x)->(mkL s M l)[k]?=M[k]?
 |[],M,_=>rfl
 |y::r,M,h=>by
  show(mkL s (mkS s M y) r)[k]?=_
  rw[ZSn r (mkS s M y)<|λx hx=>h x<|by simp[hx]]
  unfold mkS;have:=h y<|by simp
  rw[List.getElem?_set_ne<|by omega]
def ZVw{s:Sta}(hp:Prop' s)(M:List Bool){i k:Nat}(h:k<=i):(cmS s M i)[k]?=M[k]?:=by
 unfold cmS;split
 .rename_i d hd;cases M.getD i false with
  |true=>exact ZSn _ _ λx hx=>by have:=ZPY hp hd x hx;omega
  |false=>rfl
 .rfl
def ZVx{s:Sta}{M:List Bool}{i k:Nat}(h:M[k]?=some true):(cmS s M i)[k]?=some true:=by
 unfold cmS;split
 .cases M.getD i false with
  |true=>exact ZPX _ _ _ _ h
  |false=>exact h
 .exact h
def ZQx{s:Sta}{M:List Bool}{k:Nat}:∀(j i:Nat),(cmK s M i)[k]?=some true->(cmK s M<|i+j)[k]?=some true
 |0,_,h=>h
 |j+1,i,h=>by rw[<-ZXk,ZPj];exact ZVx<|ZQx j i h
def ZSo{s:Sta}(hp:Prop' s)(M:List Bool){k:Nat}:∀(j i:Nat),k<=i->(cmK s M<|i+j)[k]?=(cmK s M i)[k]?
 |0,_,_=>rfl
 |j+1,i,h=>by rw[<-ZXk,ZPj,ZVw hp _<|by omega];exact ZSo hp M j i h
def ZOa(s:Sta)(id:Str):List Bool:=mkS s (List.replicate s.Bc.length false) id
def ZSp(s:Sta)(id:Str):(ZOa s id).length=s.Bc.length:=by unfold ZOa mkS;rw[ZXJ,ZY2]
def ZPw{s:Sta}(hp:Prop' s){id:Str}(h0:0<=Zn s id):∀(i k:Nat)(d:Gc),s.Bc[k]?=some d->(cmK s (ZOa s id) i)[k]?=some true->Reach s id d.Id
 |0,k,d,hd,h=>by
  have h:(ZOa s id)[k]?=some true:=h;unfold ZOa mkS at h;rw[ZYz]at h;obtain⟨j,e,h2,h3,h4⟩:=ZPv h0;by_cases hk:(Zn s id).toNat=k
  .have:j=k:=by omega
   subst this;rw[h3]at hd;cases hd;rw[h4];exact Reach.refl _
  .rw[if_neg hk,ZYd]at h;split at h<;>cases h
 |i+1,k,d,hd,h=>by
  rw[ZPj]at h;unfold cmS at h;split at h
  .rename_i e he;cases hb:(cmK s (ZOa s id) i).getD i false with
   |false=>rw[hb,cond_false]at h;exact ZPw hp h0 i k d hd h
   |true=>
    rw[hb,cond_true]at h;rcases ZSm _ _ h with h1|⟨x,h1,h2⟩
    .exact ZPw hp h0 i k d hd h1
    .have hi:(cmK s (ZOa s id) i)[i]?=some true:=by
      have hl:=Z7 he;have hg:=ZWu (l:=cmK s (ZOa s id) i) (i:=i)<|by rw[ZPt,ZSp];exact hl
      rw[ZXM,hg]at hb;rw[hg];exact congrArg some hb
     have hr:=ZPw hp h0 i i e he hi;have hgt:=ZPY hp he x h1;obtain⟨j,f,g1,g2,g3⟩:=ZPv (s:=s) (x:=x)<|by omega
     have:j=k:=by omega
     subst this;rw[g2]at hd;cases hd;rw[g3];exact Reach.step _ _ _ e hr (ZWA he) rfl h1
  .exact ZPw hp h0 i k d hd h
def ZVy{s:Sta}(hp:Prop' s){id:Str}(h0:0<=Zn s id){z:Str}(h:Reach s id z):0<=Zn s z/\(ZOd s id)[(Zn s z).toNat]?=some true:=by
 have hc:ZOd s id=cmK s (ZOa s id) s.Bc.length:=rfl;rw[hc];induction h with
 |refl=>
  obtain⟨j,e,h2,h3,h4⟩:=ZPv h0;have:=Z7 h3;refine⟨h0,?_⟩;have:=ZQx (s:=s) (M:=ZOa s id) (k:=(Zn s id).toNat) s.Bc.length 0<|ZSk<|by rw[ZY2];omega
  rwa[ZWD]at this
 |step y z d _ hd hi hz ih=>
  obtain⟨ih1,ih2⟩:=ih;obtain⟨i,hdi⟩:=ZXF hd;have hfi:Zn s y=(i:Int):=by
   rw[<-hi,ZQw];exact Zi1 (f:=λd:Gc=>d.Id) (ZEF hp) hdi
  have hgt:=ZPY hp hdi z hz;refine⟨by omega,?_⟩
  rw[hfi,ZXR]at ih2;have hil:=Z7 hdi;have e1:(cmK s (ZOa s id) s.Bc.length)[i]?=(cmK s (ZOa s id) i)[i]?:=by
   have:=ZSo hp (ZOa s id) (k:=i) (s.Bc.length-i) i<|ZWs _
   rwa[show i+(s.Bc.length-i)=s.Bc.length by omega]at this
  rw[e1]at ih2;have hb:(cmK s (ZOa s id) i).getD i false=true:=by rw[ZXM,ih2];rfl
  obtain⟨j,f,g1,g2,g3⟩:=ZPv (s:=s) (x:=z)<|by omega
  have hjl:=Z7 g2;have h1:(cmK s (ZOa s id)<|i+1)[(Zn s z).toNat]?=some true:=by
   rw[ZPj];unfold cmS;rw[hdi];dsimp only;rw[hb,cond_true];exact ZSl _ _ hz<|by rw[ZPt,ZSp];omega
  have:=ZQx (s:=s) (M:=ZOa s id) (k:=(Zn s z).toNat) (s.Bc.length-(i+1)) (i+1) h1
  rwa[show i+1+(s.Bc.length-(i+1))=s.Bc.length by omega]at this
def ZPZ{s:Sta}(hp:Prop' s){id:Str}(h0:0<=Zn s id){k:Nat}{d:Gc}(hd:s.Bc[k]?=some d):(ZOd s id).getD k false=true↔Reach s id d.Id:=by
 have hl:=Z7 hd;have hg:=ZWu (l:=ZOd s id) (i:=k)<|by rw[ZQt];exact hl
 constructor
 .intro h;rw[ZXM,hg]at h;exact ZPw hp h0 s.Bc.length k d hd<|by show(ZOd s id)[k]?=_;rw[hg];exact congrArg some h
 .intro h;obtain⟨_,h2⟩:=ZVy hp h0 h;have hf:Zn s d.Id=(k:Int):=by rw[ZQw];exact Zi1 (f:=λd:Gc=>d.Id) (ZEF hp) hd
  rw[hf,ZXR]at h2;rw[ZXM,h2];rfl
instance (a b:Str):Decidable (ltS a b):=inferInstanceAs<|Decidable<|a.data.toList<b.data.toList
def ZPx(a b:Str):WW a b=decide (ltS a b):=by
 have h:=ZEA a b;rw[h];rfl
def ZSq(a b:Str):ltS a b\/a=b\/ltS b a:=by
 rcases Classical.em (ltS a b)with h|h
 .exact Or.inl h
 .rcases Classical.em (ltS b a)with h2|h2
  .exact Or.inr<|Or.inr h2
  .exact Or.inr<|Or.inl<|ZHp<|ZYZ (List.not_lt.1 h2)<|List.not_lt.1 h
def ZOw(x:Str):List Str->List Str
 |[]=>[x]
 |y::r=>bif WW y x then y::ZOw x r else x::(y::r).filter (λz=>!Z3 z x)
def ZSr(x:Str):∀(r o:List Str),r.foldl (ZOn x) (o,true)=(o++r.filter (λz=>!Z3 z x),true)
 |[],o=>by simp
 |y::r,o=>by
  rw[ZXd];have e:ZOn x (o,true) y=((bif Z3 y x then o else o++[y]),true):=by unfold ZOn;simp
  rw[e,ZSr x r];cases h:Z3 y x<;>simp[h]
def ZQ0(x:Str)(st:List Str×Bool):List Str:=bif st.2 then st.1 else st.1++[x]
def ZSs(x:Str):∀(r o:List Str),ZQ0 x (r.foldl (ZOn x) (o,false))=o++ZOw x r
 |[],o=>by simp[ZQ0,ZOw]
 |y::r,o=>by
  rw[ZXd];unfold ZOw;cases h:WW y x with
  |true=>
   have hne:Z3 y x=false:=by
    cases c:Z3 y x with
    |false=>rfl
    |true=>
     rw[(Ky _ _).1 c,ZPx]at h;exact absurd (of_decide_eq_true h)<|ZIV x
   have e:ZOn x (o,false) y=(o++[y],false):=by unfold ZOn;rw[h,hne];rfl
   rw[e,ZSs x r,cond_true];simp
  |false=>
   have e:ZOn x (o,false) y=((bif Z3 y x then o++[x]else(o++[x])++[y]),true):=by unfold ZOn;rw[h];rfl
   rw[e,ZSr,cond_false];unfold ZQ0;cases c:Z3 y x<;>simp[c]
def ZSt(x:Str)(l:List Str):ZOE x l=ZOw x l:=by
 have h:=ZSs x l [];rw[ZWZ]at h;rw[<-h];unfold ZOE ZO9 ZQ0;rw[ZWR]
def ZQy{x:Str}:∀{l:List Str}(z:Str),z∈ZOw x l↔z=x\/z∈l
 |[],z=>by simp[ZOw]
 |y::r,z=>by
  unfold ZOw;cases WW y x with
  |true=>rw[cond_true,ZWJ,ZQy,ZWJ];constructor<;>(rintro(h|h|h)<;>simp[h])
  |false=>
   rw[cond_false,ZWJ,ZXv];constructor
   .rintro(h|⟨h,_⟩)
    .exact Or.inl h
    .exact Or.inr h
   .rintro(h|h)
    .exact Or.inl h
    .cases c:Z3 z x with
     |true=>exact Or.inl<|(Ky _ _).1 c
     |false=>exact Or.inr ⟨h,rfl⟩
def ZSu{x:Str}:∀{l:List Str},l.Pairwise ltS->(ZOw x l).Pairwise ltS
 |[],_=>by simp[ZOw]
 |y::r,h=>by
  rw[ZXa]at h;unfold ZOw;cases hc:WW y x with
  |true=>
   rw[ZPx]at hc;rw[cond_true,ZXa];refine⟨?_,ZSu h.2⟩;intro z hz;rcases(ZQy z).1 hz with rfl|hz
   .exact of_decide_eq_true hc
   .exact h.1 z hz
  |false=>
   rw[ZPx]at hc;have hn:=of_decide_eq_false hc;rw[cond_false,ZXa];have hp:(y::r).Pairwise ltS:=ZXa.2 h;refine⟨?_,hp.filter _⟩;intro z hz;obtain⟨h1,h2⟩:=ZXv.1 hz;have hne:z≠x:=λe=>by rw[e,ZOJ]at h2;cases h2
   have hyz:y=z\/ltS y z:=by
    rcases ZWJ.1 h1 with e|e
    .exact Or.inl e.symm
    .exact Or.inr<|h.1 z e
   rcases ZSq x y with g|g|g
   .rcases hyz with rfl|hyz
    .exact g
    .exact ZJc g hyz
   .subst g;rcases hyz with rfl|hyz
    .exact absurd rfl hne
    .exact hyz
   .exact absurd g hn
def ZSv{x:Str}{l:List Str}(h:l.Pairwise ltS):(ZOE x l).Pairwise ltS:=by rw[ZSt];exact ZSu h
def put_mem{x:Str}{l:List Str}(z:Str):z∈ZOE x l↔z=x\/z∈l:=by rw[ZSt];exact ZQy z
def ZSw{x:Endz}{l:List Endz}(z:Endz):z∈ZOb x l↔z=x\/z∈l:=by
 unfold ZOb;rw[ZX5,ZWJ];have h:z∈l↔z∈l.takeWhile (ltE x)\/z∈l.dropWhile (ltE x):=by
  rw[<-ZX5,ZZn]
 rw[h];constructor
 .rintro(h|h|h)
  .exact Or.inr<|Or.inl h
  .exact Or.inl h
  .exact Or.inr<|Or.inr h
 .rintro(h|h|h)
  .exact Or.inr<|Or.inl h
  .exact Or.inl h
  .exact Or.inr<|Or.inr h
def ZSx{x:Endz}:∀{l:List Endz},l.Pairwise (λa b=>ltS a.Id b.Id)->(∀y∈l,y.Id≠x.Id)->(ZOb x l).Pairwise (λa b=>ltS a.Id b.Id)
 |[],_,_=>by simp[ZOb]
 |y::r,h,hn=>by
  rw[ZXa]at h;have ih:=ZSx (x:=x) h.2<|λz hz=>hn z<|by simp[hz]
  unfold ZOb at ih⊢;rw[ZZa,List.dropWhile_cons];cases hc:ltE x y with
  |true=>
   unfold ltE at hc;rw[ZPx]at hc;simp only[if_true,ZWO];rw[ZXa];refine⟨?_,ih⟩;intro z hz;rcases(ZSw (x:=x) (l:=r) z).1 hz with rfl|hz
   .exact of_decide_eq_true hc
   .exact h.1 z hz
  |false=>
   unfold ltE at hc;rw[ZPx]at hc;have hnl:=of_decide_eq_false hc;simp only[ZWt,if_false,ZWZ];rw[ZXa];have hxy:ltS x.Id y.Id:=by
    rcases ZSq x.Id y.Id with g|g|g
    .exact g
    .exact absurd g.symm<|hn y<|by simp
    .exact absurd g hnl
   refine⟨?_,ZXa.2 h⟩;intro z hz;rcases ZWJ.1 hz with rfl|hz
   .exact hxy
   .exact ZJc hxy<|h.1 z hz
def ZSy(k:Int):pfn rE 260 [I k]=some (.bool<|ZD k 1 3):=by
 rw[Z5 (f:=260) rfl rfl];unfold ZD;cases h:decide (k>=1)<;>simp only[go_sem,c260,h,ZWp,ZWr]
def ZVz{l:List Str}(hn:l.Nodup){i k:Nat}{x y:Str}(hx:l[i]?=some x)(hy:l[k]?=some y)(hik:k<i):Z3 y x=false:=by
 cases h:Z3 y x with
 |false=>rfl
 |true=>
  have e:=(Ky _ _).1 h;subst e;have h1:=ZWx.1 hx;have h2:=ZWx.1 hy;have:=(ZZ7.1 hn);rw[ZZm]at this;exact absurd (h2.2.trans h1.2.symm)<|this k i h2.1 h1.1 hik
def ZVA(L:List Gm)(hL:RgOk L):pfn rE 259 [.isl false false 3<|L.map arA]=some (.bool true):=by
 have hl:=hL.len;have inner:∀(i:Nat)(x:Gm),L[i]?=some x->∃fr',Zg rE [0,3,4] c259L0b [(0,.isl false false 3<|L.map arA),(3,I i),(4,.int .i64 0)] []=some (.exit 2,fr',[])/\get fr' 0=.isl false false 3 (L.map arA)/\get fr' 3=I i:=λi x hx=>by
  have hgx:=Z6 (f:=arA) hx;have hli:=Z7 hx;have R:=Y8 (E:=rE) (live:=[0,3,4]) (b:=c259L0b) i (λj=>[(0,.isl false false 3<|L.map arA),(3,I i),(4,I j)]) (λ_=>[]) (λj=>rfl)
   (λj hj=>by
    obtain⟨y,hy⟩:∃y,L[j]?=some y:=⟨_,ZWu<|by omega⟩
    have hgy:=Z6 (f:=arA) hy;have hlt:=Zh hj;have hw:=Zx (n:=j)<|by omega
    have hd:=ZVz (x:=x.Id) (y:=y.Id) hL.ids (by rw[ZXg,hx];rfl) (by rw[ZXg,hy];rfl) hj
    refine⟨_,by simp only[go_sem,c259L0b,hgx,hgy,hlt,hw,arA,hd];rfl,?_⟩
    simp only[go_sem])
   (e:=.exit 2) (fr:=[(0,.isl false false 3<|L.map arA),(2,.bot),(3,I i),(4,I i)]) (h:=[]) (by simp only[go_sem,c259L0b,ZG]) (by simp)
  exact⟨_,R,rfl,rfl⟩
 have R:=Y8 (E:=rE) (live:=[0,3]) (b:=c259L1b) L.length (λi=>[(0,.isl false false 3<|L.map arA),(3,I i)]) (λ_=>[]) (λj=>rfl)
  (λi hi=>by
   obtain⟨x,hx⟩:∃x,L[i]?=some x:=⟨_,ZWu hi⟩;have hg:=Z6 (f:=arA) hx;have hi':=Zh hi;have hw:=Zx (n:=i)<|by omega
   obtain⟨o1,o2,o3,o4⟩:=hL.ok x<|ZWA hx;have hn:=ZOe x.Id<|ZXh (ZRM o1)<|by omega
   have hk:=ZSy x.bq;have hv:=ZPK x.Ring.l x.Ring.ex o4;rw[o1]at hn;rw[o2]at hk;rw[o3]at hv;obtain⟨fr',h1,g0,g3⟩:=inner i x hx;refine⟨_,by simp only[go_sem,c259L1b,c259L0,hg,hi',hw,arA,hn,hk,hv,ZWo];rw[h1];simp only[go_sem,hw,g0,g3];rfl,?_⟩
   simp only[go_sem])
  (e:=.exit 0) (fr:=[(0,.isl false false 3<|L.map arA),(2,.bot),(3,I L.length)]) (h:=[]) (by simp only[go_sem,c259L1b,ZG,ZWm]) (by simp)
 have R':Zg rE [0,3] c259L1b [(0,.isl false false 3<|L.map arA),(3,.int .i64 0)] []=_:=R;have h4:decide ((L.length:Int)>400)=false:=decide_eq_false<|by omega
 rw[Z5 (f:=259) rfl rfl];simp only[go_sem,c259,c259L1,R',h4,ZWm]
def atS(k:Int)(p:Pt)(m:Int)(q:List Str)(x:Gm):List Str:=bif x.bq==k&&decide (ZoY x.Ring.l p>=m)then ZOE x.Id q else q
def atZ(k:Int)(p:Pt)(m:Int)(L:List Gm):List Str:=L.foldl (atS k p m) []
def ZSz(L:List Gm)(hl:L.length<=400)(hr:∀x∈L,x.Ring.l.length<=1000000)(k:Int)(p:Pt)(m:Int):pfn rE 186 [.isl false false 3<|L.map arA,I k,.agg [I p.X,I p.Y],I m]=some (.isl false false 1<|(atZ k p m L).map encS):=by
 have hcS:∀D:List Str,Z4 (D.map encS)=true:=λD=>Zw (λt=>rfl) _
 have len:∀(r:List Gm)(q:List Str),(r.foldl (atS k p m) q).length<=q.length+r.length:=λr=>by
  induction r with
  |nil=>intro q;exact ZWs _
  |cons x r ih=>
   intro q;rw[ZXd,ZWH];have h1:=ih<|atS k p m q x;have h2:(atS k p m q x).length<=q.length+1:=by
    unfold atS;cases x.bq==k&&decide (ZoY x.Ring.l p>=m)with
    |true=>exact ZSi _ _
    |false=>exact ZYa _
   omega
 have R:=Y8 (E:=rE) (live:=[0,1,3,6,9,10]) (b:=c186L0b) L.length (λi=>[(0,.isl false false 3<|L.map arA),(1,I k),(3,I m),(6,.iptr false [I p.X,I p.Y]),(9,.isl false false 1<|(atZ k p m<|L.take i).map encS),(10,I i)]) (λ_=>[]) (λj=>rfl)
  (λi hi=>by
   obtain⟨x,hx⟩:∃x,L[i]?=some x:=⟨_,ZWu hi⟩;have hg:=Z6 (f:=arA) hx;have hi':=Zh hi;have hw:=Zx (n:=i)<|by omega
   have hW:=ZTu x.Ring.l x.Ring.ex (hr x<|ZWA hx) p;have htk:atZ k p m (L.take<|i+1)=atS k p m (atZ k p m<|L.take i) x:=by
    unfold atZ;rw[ZY9,hx,ZXV];rfl
   have hlen:(atZ k p m<|L.take i).length<=400:=by have:=len (L.take i) [];unfold atZ;simp only[ZWQ,ZWT]at this;omega
   rw[htk];generalize atZ k p m (L.take i)=q at*;have hP:=ZSc false q x.Id<|by omega
   unfold atS;cases k1:x.bq==k with
   |false=>exact⟨_,by simp only[go_sem,c186L0b,hg,hi',hw,hcS,arA,k1,ZWm,ZWr,cond_false];rfl,by simp only[go_sem,ZWr,cond_false]⟩
   |true=>
   cases k2:decide (ZoY x.Ring.l p>=m)with
   |false=>exact⟨_,by simp only[go_sem,c186L0b,hg,hi',hw,hcS,arA,hW,k1,k2,ZWm,ZWw,cond_false];rfl,by simp only[go_sem,ZWw,cond_false]⟩
   |true=>exact⟨_,by simp only[go_sem,c186L0b,hg,hi',hw,hcS,arA,hW,hP,k1,k2,ZWm,ZWv,cond_true];rfl,by simp only[go_sem,ZWv,cond_true]⟩)
  (e:=.exit 0) (fr:=[(0,.isl false false 3<|L.map arA),(1,I k),(3,I m),(6,.iptr false [I p.X,I p.Y]),(9,.isl false false 1<|(atZ k p m L).map encS),(10,I L.length)]) (h:=[]) (by
   rw[ZWR];simp only[go_sem,c186L0b,ZG,ZWm]) (by simp)
 have R':Zg rE [0,1,3,6,9,10] c186L0b [(0,.isl false false 3<|L.map arA),(1,I k),(3,I m),(6,.iptr false [I p.X,I p.Y]),(9,.isl false false 1 []),(10,.int .i64 0)] []=_:=R;rw[Z5 (f:=186) rfl rfl];simp only[go_sem,c186,c186L0,R',hcS]
def ZSA(k:Int)(p:Pt)(m:Int):∀(L:List Gm)(q:List Str),q.Pairwise ltS->(L.foldl (atS k p m) q).Pairwise ltS
 |[],q,h=>h
 |x::r,q,h=>by
  rw[ZXd];refine ZSA k p m r _ ?_;unfold atS;cases x.bq==k&&decide (ZoY x.Ring.l p>=m)with
  |true=>exact ZSv h
  |false=>exact h
def at_mem(k:Int)(p:Pt)(m:Int)(z:Str):∀(L:List Gm)(q:List Str),z∈L.foldl (atS k p m) q↔z∈q\/∃x∈L,(x.bq==k&&decide (ZoY x.Ring.l p>=m))=true/\x.Id=z
 |[],q=>by simp
 |x::r,q=>by
  rw[ZXd,at_mem k p m z r];have h:z∈atS k p m q x↔z∈q\/((x.bq==k&&decide (ZoY x.Ring.l p>=m))=true/\x.Id=z):=by
   unfold atS;cases x.bq==k&&decide (ZoY x.Ring.l p>=m)with
   |true=>rw[cond_true,put_mem];constructor<;>(rintro(h|h))<;>simp[h]
   |false=>simp
  rw[h];simp only[ZWJ];constructor
  .rintro((h|h)|⟨y,h1,h2⟩)
   .exact Or.inl h
   .exact Or.inr ⟨x,Or.inl rfl,h⟩
   .exact Or.inr ⟨y,Or.inr h1,h2⟩
  .rintro(h|⟨y,rfl|h1,h2⟩)
   .exact Or.inl<|Or.inl h
   .exact Or.inl<|Or.inr h2
   .exact Or.inr ⟨y,h1,h2⟩
def ZSB(p:Pt):∀(l:List Gm)(q:List Str×Bool),(l.foldl (lkS p) q).1=q.1++(l.filter<|λx=>decide (ZoY x.Ring.l p>=0)).map (·.Id)/\(l.foldl (lkS p) q).2=(q.2||l.any (λx=>decide (ZoY x.Ring.l p>0)))
 |[],q=>by simp
 |x::r,q=>by
  rw[ZXd];obtain⟨h1,h2⟩:=ZSB p r<|lkS p q x;rw[h1,h2];unfold lkS;constructor
  .cases h:decide (ZoY x.Ring.l p>=0)<;>simp[h]
  .rw[ZXq,ZZ9]
def ZVB(k:Int)(p:Pt)(L:List Gm)(hn:(L.map (·.Id)).Nodup):ZEi (lkT k p L).1=atZ k p 0 L/\(lkT k p L).2 = !(atZ k p 1 L).isEmpty:=by
 obtain⟨h1,h2⟩:=ZSB p (L.filter λx=>x.bq==k) ([],false)
 have e1:(lkT k p L).1=((L.filter λx=>x.bq==k).filter (λx=>decide (ZoY x.Ring.l p>=0))).map (·.Id):=by unfold lkT;rw[h1];rfl
 have e2:(lkT k p L).2=(L.filter λx=>x.bq==k).any (λx=>decide (ZoY x.Ring.l p>0)):=by unfold lkT;rw[h2];rfl
 constructor
 .have hnd:(lkT k p L).1.Nodup:=by
   rw[e1];exact hn.sublist<|(ZYN.trans ZYN).map _
  refine ZIS (f:=λx:Str=>x) (ZHr _ hnd) (ZSA k p 0 L [] List.Pairwise.nil)<|λz=>?_
  have hm:=at_mem k p 0 z L [];rw[show L.foldl (atS k p 0) []=atZ k p 0 L from rfl]at hm
  rw[(ZES _).mem_iff,hm,e1,ZX2];constructor
  .rintro⟨x,hx,rfl⟩;rw[ZXv,ZXv]at hx;exact Or.inr ⟨x,hx.1.1,by rw[hx.1.2,hx.2];rfl,rfl⟩
  .rintro(h|⟨x,hx,h,rfl⟩)
   .cases h
   .rw[ZWn]at h;exact⟨x,by rw[ZXv,ZXv];exact⟨⟨hx,h.1⟩,h.2⟩,rfl⟩
 .rw[e2];cases hq:atZ k p 1 L with
  |nil=>
   show _=false
   rw[ZZ2];intro x hx hw;rw[ZXv]at hx;have:x.Id∈atZ k p 1 L:=(at_mem k p 1 x.Id L []).2 (Or.inr ⟨x,hx.1,by rw[hx.2,decide_eq_true (by have:=of_decide_eq_true hw;omega)];rfl,rfl⟩)
   rw[hq]at this;cases this
  |cons y r=>
   show _=true
   have hy:y∈atZ k p 1 L:=by rw[hq];exact ZX4 ..
   rcases(at_mem k p 1 y L []).1 hy with h|⟨x,hx,h,_⟩
   .cases h
   .rw[ZWn]at h;rw[List.any_eq_true];exact⟨x,ZXv.2 ⟨hx,h.1⟩,decide_eq_true (by have:=of_decide_eq_true h.2;omega)⟩
def ZQz(L:List Gm)(hL:RgOk L)(k:Int)(hk:ZD k 1 3=true)(p:Pt):pfn rE 121 [.isl false false 3<|L.map arA,I k,.agg [I p.X,I p.Y]]=some (.tup [.str (ZLf k p L).1,I (ZLf k p L).2]):=by
 have hV:=ZVA L hL;have hK:=ZSy k;have hG:=ZO4 p;have a0:=ZSz L hL.len (λx hx=>(hL.ok x hx).2.2.2) k p 0
 have a1:=ZSz L hL.len (λx hx=>(hL.ok x hx).2.2.2) k p 1
 obtain⟨s1,s2⟩:=ZVB k p L hL.ids;rw[hk]at hK;have hcS:∀D:List Str,Z4 (D.map encS)=true:=λD=>Zw (λt=>rfl) _
 have hA:pfn rE 185 [.isl false false 3<|L.map arA,I k,.agg [I p.X,I p.Y]]=some (.tup<|bif gOn p then [.isl false false 1<|(atZ k p 0 L).map encS,I 0]else [.isl false false 1 [],I 1]):=by
  rw[Z5 (f:=185) rfl rfl];cases c:gOn p with
  |false=>
   rw[c]at hG;simp only[go_sem,c185,hV,hK,hG,ZWo,ZWq,cond_false]
  |true=>
   rw[c]at hG;simp only[go_sem,c185,hV,hK,hG,a0,hcS,ZWo,cond_true]
 have hix:∀(x:Str)(l:List AV),ixG (.str x::l) 0=some (.str x):=λx l=>rfl
 unfold ZLf;rw[s1,s2];rw[Z5 (f:=121) rfl rfl];cases c:gOn p with
 |false=>
  rw[c,cond_false]at hA;have z1:((1:Int) != 0)=true:=rfl;simp only[go_sem,c121,hA,z1,cond_false]
 |true=>
  rw[c,cond_true]at hA;have z0:((0:Int) != 0)=false:=rfl;rw[cond_true];cases hs:atZ k p 0 L with
  |nil=>
   rw[hs]at hA;simp only[ZX6]at hA;have z2:(((0:Nat):Int)==0)=true:=rfl;simp only[go_sem,c121,hA,z0,z2,ZWQ]
  |cons x r=>
   rw[hs]at hA;simp only[ZWI]at hA;have z3:(((r.length+1:Nat):Int)==0)=false:=by rw[beq_eq_false_iff_ne];omega
   have hi0:decide ((0:Int)<((r.length+1:Nat):Int))=true:=decide_eq_true<|by omega
   cases r with
   |nil=>
    have z4:decide (((1:Nat):Int)>1)=false:=rfl;have z6:(((1:Nat):Int)==0)=false:=rfl;have z7:decide ((0:Int)<((1:Nat):Int))=true:=rfl;simp only[go_sem,c121,hA,hix,z0,z3,z4,z6,z7,ZWQ,ZX6,encS,ZZ4,ZWo,ZWr,cond_false]
   |cons y r=>
    have z4:decide (((r.length+2:Nat):Int)>1)=true:=decide_eq_true<|by omega
    have z6:(((r.length+2:Nat):Int)==0)=false:=by rw[beq_eq_false_iff_ne];omega
    have z8:decide ((0:Int)<((r.length+2:Nat):Int))=true:=decide_eq_true<|by omega
    cases h1:atZ k p 1 L with
    |nil=>
     rw[h1]at a1;simp only[ZX6]at a1;have z5:decide (((0:Nat):Int)>0)=false:=rfl;simp only[go_sem,c121,hA,a1,hix,z0,z3,z4,z5,z6,z8,ZWm,ZWH,ZWQ,ZWI,encS,ZZ4,ZYf,ZWo,ZWq,ZWw,cond_false]
    |cons u v=>
     rw[h1]at a1;simp only[ZWI]at a1;have z5:decide (((v.length+1:Nat):Int)>0)=true:=decide_eq_true<|by omega
     simp only[go_sem,c121,hA,a1,hix,z0,z3,z4,z5,z6,z8,ZWm,ZWH,ZWI,encS,ZYf,ZWq,ZWv,cond_true]
def ZLo(s:Str):pfn rE 43 [.str s]=some (.bool<|ZZ s):=by
 have h:=Jl s;rw[Z5 (f:=189) rfl rfl]at h;rw[Z5 (f:=43) rfl rfl];exact h
structure Wch where
 Id:Str
 Gc:Str
def Wch.enc(w:Wch):AV:=.agg [.str w.Id,.str w.Gc]
def wpP(l:List Wch)(i:Nat)(w:Wch):Bool:=ZZ w.Id&&(ZZ w.Gc&&!((l.take i).map (·.Id)).any (Z3 w.Id))
def wpB(l:List Wch):Bool:=Zu (wpP l) 0 l&&decide ((l.length:Int)<=1000)
def ZLZ(bw ex:Bool)(l:List Wch)(hl:l.length<=100000):pfn rE 20 [.isl bw ex 2<|l.map Wch.enc]=some (.bool<|wpB l):=by
 have hb2:∀n(K:List Str),Zd n (K.map encS)=true:=λn K=>ZN _<|Zw (λt=>rfl) K
 have hb3:∀n k,Zd n (ZO k)=true:=λn k=>ZN _<|Ut k
 obtain⟨fr',h',L1,L2,L3⟩:=Jk (E:=rE) (live:=[0,3,7,8,9]) (b:=c20L0b) l (wpP l) (λi=>[(0,.isl bw ex 2<|l.map Wch.enc),(3,.mp 0),(7,.isl bw ex 2<|l.map Wch.enc),(8,I l.length),(9,I i)])
  (λi=>[.map (((l.take i).map (·.Id)).map encS) (ZO ((l.take i).map (·.Id)).length)]) 0 (λfr _=>get fr 0=.isl bw ex 2 (l.map Wch.enc)/\get fr 2=.bot) (λfr _=>get fr 2=.bool false) (λi=>rfl)
  (λi x hx hP=>by
   have hg:=Z6 (f:=Wch.enc) hx;have hi':=Zh<|Z7 hx;have hw:=Zx (n:=i) (by have:=Z7 hx;omega)
   have k1:=ZLo x.Id;have k2:=ZLo x.Gc;have ht:=YW (λx:Wch=>x.Id) hx
   unfold wpP at hP;simp only[ZWn,ZWG]at hP;obtain⟨p1,p2,p3⟩:=hP;rw[p1]at k1;rw[p2]at k2;rw[ht];generalize(l.take i).map (·.Id)=K at p3⊢;have hf:Qi Z3 K x.Id=K++[x.Id]:=by unfold Qi;rw[p3];rfl
   have hp:=λhh=>Ur (ag:=false) (kk:=[2]) (enc:=encS) (eq:=Z3) Z1Y K x.Id (h:=.map (K.map encS) (ZO K.length)::hh) (b:=0) rfl
   have hq:=λhh=>H5 (ag:=false) (kk:=[2]) (enc:=encS) (eq:=Z3) Z1Y K x.Id (h:=.map (K.map encS) (ZO K.length)::hh) (b:=0) rfl
   rw[hf]at hp;rw[p3]at hq;simp only[encS]at hp hq;simp only[Wch.enc]at hg;refine⟨_,by simp only[go_sem,c20L0b,hg,hi',hw,k1,k2,hp,hq,hb2,hb3,ZWo];rfl,?_⟩
   simp only[go_sem])
  (λi x hx hP=>by
   have hg:=Z6 (f:=Wch.enc) hx;have hi':=Zh<|Z7 hx;have k1:=ZLo x.Id;have k2:=ZLo x.Gc;unfold wpP at hP;generalize(l.take i).map (·.Id)=K at hP⊢;have hq:=λhh=>H5 (ag:=false) (kk:=[2]) (enc:=encS) (eq:=Z3) Z1Y K x.Id (h:=.map (K.map encS) (ZO K.length)::hh) (b:=0) rfl
   simp only[encS]at hq;simp only[Wch.enc]at hg;cases p1:ZZ x.Id with
   |false=>
    rw[p1]at k1;exact⟨_,_,by simp only[go_sem,c20L0b,hg,hi',k1,hb2,hb3,ZWq];rfl,by simp only[go_sem]⟩
   |true=>
   rw[p1]at k1;cases p2:ZZ x.Gc with
   |false=>
    rw[p2]at k2;exact⟨_,_,by simp only[go_sem,c20L0b,hg,hi',k1,k2,hb2,hb3,ZWo,ZWq];rfl,by simp only[go_sem]⟩
   |true=>
   rw[p2]at k2;have p3:K.any (Z3 x.Id)=true:=by rw[p1,p2]at hP;simpa using hP
   rw[p3]at hq;exact⟨_,_,by simp only[go_sem,c20L0b,hg,hi',k1,k2,hq,hb2,hb3,ZWo];rfl,by simp only[go_sem]⟩)
  (⟨_,_,by simp only[go_sem,c20L0b,ZG];rfl,by simp only[go_sem],by simp only[go_sem]⟩)
 have L1':Zg rE [0,3,7,8,9] c20L0b [(0,.isl bw ex 2<|l.map Wch.enc),(3,.mp 0),(7,.isl bw ex 2<|l.map Wch.enc),(8,I l.length),(9,.int .i64 0)] [.map [] []]=_:=L1;rw[Z5 (f:=20) rfl rfl];unfold wpB;cases e:Zu (wpP l) 0 l with
 |true=>
  obtain⟨q1,q2⟩:=L2 e;rw[e]at L1';have q1b:=q1;simp only[go_sem,c20,c20L0,ZWm,L1',q1,q2,if_true,ZWp]
 |false=>
  have q1:=L3 e;rw[e]at L1';simp only[go_sem,c20,c20L0,ZWm,L1',q1,ZWt,ZWr]
def Zvh(a b:Plc):Bool:=Z3 a.Gc b.Gc&&(Z3 a.Ev b.Ev&&(Z3 a.Code b.Code&&(Z3 a.District b.District&&(Z3 a.City b.City&&(a.An.N==b.An.N&&(Z3 a.An.bm b.An.bm&&(a.An.Num==b.An.Num&&(a.An.Den==b.An.Den&&(a.bg.X==b.bg.X&&a.bg.Y==b.bg.Y)))))))))
def Zwt{a b:Plc}:Zvh a b=true↔a=b:=by
 unfold Zvh;simp only[ZWn,Ky,beq_iff_eq];constructor
 .obtain⟨a1,a2,a3,a4,a5,⟨b1,b2,b3,b4⟩,⟨c1,c2⟩⟩:=a;obtain⟨d1,d2,d3,d4,d5,⟨e1,e2,e3,e4⟩,⟨f1,f2⟩⟩:=b;rintro⟨rfl,rfl,rfl,rfl,rfl,rfl,rfl,rfl,rfl,rfl,rfl⟩;rfl
 .rintro rfl;simp
def ZLd{α:Type}(f:α->α->Bool)(b:List α)(i:Nat)(x:α):Bool:=match b[i]? with|some y=>f x y|none=>false
def eqL{α:Type}(f:α->α->Bool)(a b:List α):Bool:=a.length==b.length&&Zu (ZLd f b) 0 a
def ZLj{α:Type}{f:α->α->Bool}(hf:∀x y,f x y=true↔x=y){a b:List α}:eqL f a b=true↔a=b:=by
 unfold eqL;rw[ZWn,beq_iff_eq,Zda];constructor
 .rintro⟨h1,h2⟩;refine ZZ3 h1 λi hi hj=>?_
  have:=h2 i a[i]<|ZWu hi;unfold ZLd at this;rw[ZWD,ZWu hj]at this;exact(hf _ _).1 this
 .rintro rfl;refine⟨rfl,λi x hx=>?_⟩
  unfold ZLd;rw[ZWD,hx];exact(hf x x).2 rfl
def neL{α:Type}{a b:List α}:((a.length:Int) != (b.length:Int)) = !(a.length==b.length):=by
 cases h:a.length==b.length with
 |true=>rw[eq_of_beq h];simp
 |false=>
  have:a.length≠b.length:=by simpa using h
  simp;omega
def ZQ1{α:Type}{f:α->α->Bool}{enc:α->AV}{b:ACode}{live:List Nat}(S:Nat->Fr)(a c:List α)(e:a.length=c.length)(hl:a.length<=1152921504606846976)(hr:∀i,Z2 live (S i)=S i)
 (hs:∀(i:Nat)(x y:α),(a.map enc)[i]?=some (enc x)->(c.map enc)[i]?=some (enc y)->decide ((i:Int)<(a.length:Int))=true->IntKind.i64.wrap ((i:Int)+1)=((i+1:Nat):Int)->(f x y=true->∃fr',Zb rE b (S i) []=some (.normal,fr',[])/\Z2 live fr'=S (i+1))/\(f x y=false->∃fr',Zb rE b (S i) []=some (.ret,fr',[])/\get fr' 4=.bool false))
 (last:∃fr',Zb rE b (S a.length) []=some (.exit 0,fr',[])/\get fr' 4=.bot):
 ∃fr',Zg rE live b (S 0) []=some (if Zu (ZLd f c) 0 a=true then .exit 0 else .ret,fr',[])/\(Zu (ZLd f c) 0 a=true->get fr' 4=.bot)/\(Zu (ZLd f c) 0 a=false->get fr' 4=.bool false):=by
 have key:∀i x,a[i]?=some x->∃y,c[i]?=some y/\ZLd f c i x=f x y:=λi x hx=>by
  obtain⟨y,hy⟩:∃y,c[i]?=some y:=⟨_,ZWu<|by rw[<-e];exact Z7 hx⟩
  exact⟨y,hy,by unfold ZLd;rw[hy]⟩
 refine QT (E:=rE) (live:=live) (b:=b) (h:=[]) a (ZLd f c) S 0 (λfr=>get fr 4=.bot) (λfr=>get fr 4=.bool false) hr (λi x hx hP=>?_) (λi x hx hP=>?_) last
 .obtain⟨y,hy,hq⟩:=key i x hx;rw[hq]at hP;exact(hs i x y (Z6 hx) (Z6 hy) (Zh<|Z7 hx)<|Zx (by have:=Z7 hx;omega)).1 hP
 .obtain⟨y,hy,hq⟩:=key i x hx;rw[hq]at hP;exact(hs i x y (Z6 hx) (Z6 hy) (Zh<|Z7 hx)<|Zx (by have:=Z7 hx;omega)).2 hP
def ZMl(ba ea bb eb:Bool)(a b:List Str)(hl:a.length<=1152921504606846976):pfn rE 98 [.isl ba ea 1<|a.map encS,.isl bb eb 1<|b.map encS]=some (.bool<|eqL Z3 a b):=by
 have hne:=neL (a:=a) (b:=b);rw[Z5 (f:=98) rfl rfl];unfold eqL;cases c:a.length==b.length with
 |false=>
  rw[c]at hne;simp only[go_sem,c98,ZWm,hne,ZWq,ZWr]
 |true=>
 rw[c]at hne;have hlen:a.length=b.length:=eq_of_beq c;obtain⟨fr',h1,h2,h3⟩:=ZQ1 (f:=Z3) (enc:=encS) (b:=c98L0b) (live:=[0,1,12,13]) (λi=>[(0,.isl ba ea 1<|a.map encS),(1,.isl bb eb 1<|b.map encS),(12,I a.length),(13,I i)]) a b hlen hl (λi=>rfl)
  (λi x y hg hgy hi hw=>by
   simp only[encS]at hg hgy;constructor<;>intro hP<;>exact⟨_,by simp only[go_sem,c98L0b,hg,hgy,hi,hw,hP,ZWo,ZWq];rfl,by simp only[go_sem]⟩)
  (⟨_,by simp only[go_sem,c98L0b,ZG,ZWm];rfl,by simp only[go_sem]⟩)
 have h1':Zg rE [0,1,12,13] c98L0b [(0,.isl ba ea 1<|a.map encS),(1,.isl bb eb 1<|b.map encS),(12,I a.length),(13,.int .i64 0)] []=_:=h1;cases e:Zu (ZLd Z3 b) 0 a with
 |true=>
  rw[e]at h1';simp only[go_sem,c98,c98L0,ZWm,hne,h1',h2 e,if_true,ZWo,ZWp]
 |false=>
  rw[e]at h1';simp only[go_sem,c98,c98L0,ZWm,hne,h1',h3 e,ZWt,ZWo,ZWp]
def ZMm(ba ea bb eb:Bool)(a b:List Endz)(hl:a.length<=1152921504606846976):pfn rE 99 [.isl ba ea 3<|a.map Endz.enc,.isl bb eb 3<|b.map Endz.enc]=some (.bool<|eqL ZEq a b):=by
 have hne:=neL (a:=a) (b:=b);rw[Z5 (f:=99) rfl rfl];unfold eqL;cases c:a.length==b.length with
 |false=>
  rw[c]at hne;simp only[go_sem,c99,ZWm,hne,ZWq,ZWr]
 |true=>
 rw[c]at hne;have hlen:a.length=b.length:=eq_of_beq c;obtain⟨fr',h1,h2,h3⟩:=ZQ1 (f:=ZEq) (enc:=Endz.enc) (b:=c99L0b) (live:=[0,1,12,13]) (λi=>[(0,.isl ba ea 3<|a.map Endz.enc),(1,.isl bb eb 3<|b.map Endz.enc),(12,I a.length),(13,I i)]) a b hlen hl (λi=>rfl)
  (λi x y hg hgy hi hw=>by
   simp only[Endz.enc]at hg hgy;constructor<;>intro hP<;>(unfold ZEq at hP;exact⟨_,by simp only[go_sem,c99L0b,hg,hgy,hi,hw,hP,ZWo,ZWq];rfl,by simp only[go_sem]⟩))
  (⟨_,by simp only[go_sem,c99L0b,ZG,ZWm];rfl,by simp only[go_sem]⟩)
 have h1':Zg rE [0,1,12,13] c99L0b [(0,.isl ba ea 3<|a.map Endz.enc),(1,.isl bb eb 3<|b.map Endz.enc),(12,I a.length),(13,.int .i64 0)] []=_:=h1;cases e:Zu (ZLd ZEq b) 0 a with
 |true=>
  rw[e]at h1';simp only[go_sem,c99,c99L0,ZWm,hne,h1',h2 e,if_true,ZWo,ZWp]
 |false=>
  rw[e]at h1';simp only[go_sem,c99,c99L0,ZWm,hne,h1',h3 e,ZWt,ZWo,ZWp]
def ZMn(ba ea bb eb:Bool)(a b:List Plc)(hl:a.length<=1152921504606846976):pfn rE 47 [.isl ba ea 11<|a.map Plc.enc,.isl bb eb 11<|b.map Plc.enc]=some (.bool<|eqL Zvh a b):=by
 have hne:=neL (a:=a) (b:=b);rw[Z5 (f:=47) rfl rfl];unfold eqL;cases c:a.length==b.length with
 |false=>
  rw[c]at hne;simp only[go_sem,c47,ZWm,hne,ZWq,ZWr]
 |true=>
 rw[c]at hne;have hlen:a.length=b.length:=eq_of_beq c;obtain⟨fr',h1,h2,h3⟩:=ZQ1 (f:=Zvh) (enc:=Plc.enc) (b:=c47L0b) (live:=[0,1,12,13]) (λi=>[(0,.isl ba ea 11<|a.map Plc.enc),(1,.isl bb eb 11<|b.map Plc.enc),(12,I a.length),(13,I i)]) a b hlen hl (λi=>rfl)
  (λi x y hg hgy hi hw=>by
   simp only[Plc.enc]at hg hgy;constructor<;>intro hP<;>(unfold Zvh at hP;exact⟨_,by simp only[go_sem,c47L0b,hg,hgy,hi,hw,hP,ZWo,ZWq];rfl,by simp only[go_sem]⟩))
  (⟨_,by simp only[go_sem,c47L0b,ZG,ZWm];rfl,by simp only[go_sem]⟩)
 have h1':Zg rE [0,1,12,13] c47L0b [(0,.isl ba ea 11<|a.map Plc.enc),(1,.isl bb eb 11<|b.map Plc.enc),(12,I a.length),(13,.int .i64 0)] []=_:=h1;cases e:Zu (ZLd Zvh b) 0 a with
 |true=>
  rw[e]at h1';simp only[go_sem,c47,c47L0,ZWm,hne,h1',h2 e,if_true,ZWo,ZWp]
 |false=>
  rw[e]at h1';simp only[go_sem,c47,c47L0,ZWm,hne,h1',h3 e,ZWt,ZWo,ZWp]
def ZLv(ba ea bb eb:Bool)(a b:List Plc)(hl:a.length<=1152921504606846976):pfn rE 13 [.isl ba ea 11<|a.map Plc.enc,.isl bb eb 11<|b.map Plc.enc]=some (.bool<|eqL Zvh a b):=by
 have hne:=neL (a:=a) (b:=b);rw[Z5 (f:=13) rfl rfl];unfold eqL;cases c:a.length==b.length with
 |false=>
  rw[c]at hne;simp only[go_sem,c13,ZWm,hne,ZWq,ZWr]
 |true=>
 rw[c]at hne;have hlen:a.length=b.length:=eq_of_beq c;obtain⟨fr',h1,h2,h3⟩:=ZQ1 (f:=Zvh) (enc:=Plc.enc) (b:=c13L0b) (live:=[0,1,5]) (λi=>[(0,.isl ba ea 11<|a.map Plc.enc),(1,.isl bb eb 11<|b.map Plc.enc),(5,I i)]) a b hlen hl (λi=>rfl)
  (λi x y hg hgy hi hw=>by
   simp only[Plc.enc]at hg hgy;constructor<;>intro hP<;>(unfold Zvh at hP;exact⟨_,by simp only[go_sem,c13L0b,hg,hgy,hi,hw,hP,ZWo,ZWq];rfl,by simp only[go_sem]⟩))
  (⟨_,by simp only[go_sem,c13L0b,ZG,ZWm];rfl,by simp only[go_sem]⟩)
 have h1':Zg rE [0,1,5] c13L0b [(0,.isl ba ea 11<|a.map Plc.enc),(1,.isl bb eb 11<|b.map Plc.enc),(5,.int .i64 0)] []=_:=h1;cases e:Zu (ZLd Zvh b) 0 a with
 |true=>
  rw[e]at h1';simp only[go_sem,c13,c13L0,ZWm,hne,h1',h2 e,if_true,ZWo,ZWp]
 |false=>
  rw[e]at h1';simp only[go_sem,c13,c13L0,ZWm,hne,h1',h3 e,ZWt,ZWo,ZWp]
def ZMo(ea eb:Bool)(a b:List Str)(hl:a.length<=1152921504606846976):pfn rE 45 [.isl false ea 1<|a.map encS,.isl false eb 1<|b.map encS]=some (.bool<|!eqL Z3 a b):=by
 have h:=ZMl false ea false eb a b hl;rw[Z5 (f:=45) rfl rfl];cases c:eqL Z3 a b<;>rw[c]at h<;>simp only[go_sem,c45,h,ZWo,ZWq]
def ZMp(ea eb:Bool)(a b:List Endz)(hl:a.length<=1152921504606846976):pfn rE 46 [.isl false ea 3<|a.map Endz.enc,.isl false eb 3<|b.map Endz.enc]=some (.bool<|!eqL ZEq a b):=by
 have h:=ZMm false ea false eb a b hl;rw[Z5 (f:=46) rfl rfl];cases c:eqL ZEq a b<;>rw[c]at h<;>simp only[go_sem,c46,h,ZWo,ZWq]
def ZM0(ea eb:Bool)(a b:List Plc)(hl:a.length<=1152921504606846976):pfn rE 24 [.isl false ea 11<|a.map Plc.enc,.isl false eb 11<|b.map Plc.enc]=some (.bool<|!eqL Zvh a b):=by
 have h:=ZMn false ea false eb a b hl;rw[Z5 (f:=24) rfl rfl];cases c:eqL Zvh a b<;>rw[c]at h<;>simp only[go_sem,c24,h,ZWo,ZWq]
structure Knw where
 D:List Str
 E:List Endz
 P:List Plc
def Knw.enc(k:Knw):AV:=.agg [.isl false false 1<|k.D.map encS,.isl false false 3<|k.E.map Endz.enc,.isl false false 11<|k.P.map Plc.enc]
def ZLb(k m:Knw):Bool:=eqL Z3 k.D m.D&&(eqL ZEq k.E m.E&&eqL Zvh k.P m.P)
def ZLw{k m:Knw}:ZLb k m=true↔k=m:=by
 unfold ZLb;rw[ZWn,ZWn,ZLj<|λx y=>Ky x y,ZLj<|λx y=>ZGg,ZLj<|λx y=>Zwt]
 cases k;cases m;simp
structure KnS(k:Knw):Prop where
 d:k.D.length<=1152921504606846976
 e:k.E.length<=1152921504606846976
 p:k.P.length<=1152921504606846976
def ZoJ(k m:Knw)(hk:KnS k):pfn rE 23 [k.enc,m.enc]=some (.bool<|ZLb k m):=by
 have h1:=ZMo false false k.D m.D (by have:=hk.d;omega)
 have h2:=ZMp false false k.E m.E (by have:=hk.e;omega)
 have h3:=ZM0 false false k.P m.P (by have:=hk.p;omega)
 unfold ZLb Knw.enc;rw[Z5 (f:=23) rfl rfl];cases c1:eqL Z3 k.D m.D with
 |false=>
  rw[c1]at h1;simp only[go_sem,c23,h1,ZWq,ZWo,ZWr]
 |true=>
 rw[c1]at h1;cases c2:eqL ZEq k.E m.E with
 |false=>
  rw[c2]at h2;simp only[go_sem,c23,h1,h2,ZWq,ZWo,ZWr,ZWp]
 |true=>
 rw[c2]at h2;cases c5003:eqL Zvh k.P m.P<;>rw[c5003]at h3<;>simp only[go_sem,c23,h1,h2,h3,ZWq,ZWo,ZWp]
def ZL7(s:Sta)(D:List Str):List Plc:=(D.filter λx=>(ZLa s x).2==0).map λx=>(ZLa s x).1
def ZM1{s:Sta}{D:List Str}{i:Nat}{x:Str}(h:D[i]?=some x):ZL7 s (D.take<|i+1)=ZL7 s (D.take i)++(bif (ZLa s x).2==0 then [(ZLa s x).1]else []):=by
 have hi:=ZWx.1 h;unfold ZL7;rw[ZYu hi.1,ZYh,ZWM,hi.2];cases c:(ZLa s x).2==0<;>simp[List.filter,c]
def ZLx(s:Sta)(D:List Str):(ZL7 s D).length<=D.length:=by
 unfold ZL7;rw[ZWm];exact ZXU _ _
def kwH(D:List Str)(E:List Endz)(P:List Plc):Hp:=[.row 3 [.agg [.isl false false 1 [],.isl false false 3 [],.isl false false 11 []]],.row 11<|P.map Plc.enc,.row 3 [.agg [.isl false false 1<|D.map encS,.isl false false 3<|E.map Endz.enc,.sl 1 P.length 0 P.length false]]]
def stC(s:Sta):AV:=match stA s with| .agg cs=>.iptr false cs|v=>v
def ZMq(s:Sta)(hA:∀x,pfn rE 16 [stA s,.str x]=some (.tup [(ZLa s x).1.enc,I (ZLa s x).2]))(D:List Str)(E:List Endz)(hD:D.length<=500):
 ∃fr',Zg rE [2,4,5,19,20,21] c22L0b [(2,stC s),(4,.ptr 0 0 0 1),(5,.ptr 2 0 0 1),(19,.isl false false 1<|D.map encS),(20,I D.length),(21,.int .i64 0)] (kwH D E [])=some (.exit 0,fr',kwH D E<|ZL7 s D)/\get fr' 4=.ptr 0 0 0 1/\get fr' 5=.ptr 2 0 0 1:=by
 have hbS:∀n(K:List Str),Zd n (K.map encS)=true:=λn K=>ZN _<|Zw (λt=>rfl) K
 have hbP:∀n(K:List Plc),Zd n (K.map Plc.enc)=true:=λn K=>ZN _<|Zw (λt=>rfl) K
 have L:=Y8 (E:=rE) (live:=[2,4,5,19,20,21]) (b:=c22L0b) D.length (λi=>[(2,stC s),(4,.ptr 0 0 0 1),(5,.ptr 2 0 0 1),(19,.isl false false 1<|D.map encS),(20,I D.length),(21,I i)]) (λi=>kwH D E<|ZL7 s<|D.take i) (λi=>rfl)
  (λi hi=>by
   obtain⟨x,hx⟩:∃x,D[i]?=some x:=⟨_,ZWu hi⟩;have hg:=Z6 (f:=encS) hx;have hi':=Zh hi;have hw:=Zx (n:=i)<|by omega
   have ha:=hA x;have hs:=ZM1 (s:=s) hx;have hle:(ZL7 s<|D.take i).length<=500:=by
    have h1:=ZLx s<|D.take i;rw[ZWT]at h1;omega
   rw[hs];generalize ZL7 s (D.take i)=P at hle⊢;have hap:=λ(r0 r2 r3:AObj)(ys:AV)(hy:fits 11 ys=true)=>XC (h:=[r0,.row 11<|P.map Plc.enc,r2,r3]) (fz:=false) (b:=1) (g:=P.length) (sz:=11) (es:=P.map Plc.enc) (bw:=false) (ex:=false) (ys:=[ys]) (bytes:=136) (by unfold rowAt;simp) rfl (by simp[hy]) (by omega) (by omega) (by simp;omega)
   generalize hq:ZLa s x=q at ha⊢;obtain⟨⟨a1,a2,a3,a4,a5,⟨b1,b2,b3,b4⟩,⟨e1,e2⟩⟩,er⟩:=q;have hap:=λr0 r2 r3=>hap r0 r2 r3 (Plc.enc ⟨a1,a2,a3,a4,a5,⟨b1,b2,b3,b4⟩,⟨e1,e2⟩⟩) rfl
   simp only[Plc.enc]at ha hap;simp only[stA]at ha;simp only[stC,stA];cases c:er==0 with
   |true=>
    refine⟨_,by simp only[go_sem,c22L0b,kwH,hg,encS,hi',hw,ha,hap,c,hbS,hbP,ZWz,ZXs,ZWM,Plc.enc,cond_true];rfl,?_⟩
    simp only[go_sem]
   |false=>
    refine⟨_,by simp only[go_sem,c22L0b,kwH,hg,encS,hi',hw,ha,c,hbS,hbP,ZXe,cond_false];rfl,?_⟩
    simp only[go_sem])
  (e:=.exit 0) (by simp only[go_sem,kwH,c22L0b,ZG];rfl) (by simp)
 rw[ZWR]at L;exact⟨_,L,by simp only[go_sem],by simp only[go_sem]⟩
def ZLh(s:Sta)(hA:∀x,pfn rE 16 [stA s,.str x]=some (.tup [(ZLa s x).1.enc,I (ZLa s x).2]))(id:Str)(D:List Str)(E:List Endz)(e:Int)(hf:pfn rE 44 [stA s,.str id]=some (.tup [ftA false false D E,I e]))(hD:D.length<=500):
 pfn rE 22 [stA s,.str id]=some (Knw.enc ⟨D,E,ZL7 s D⟩):=by
 obtain⟨fr',l1,q4,q5⟩:=ZMq s hA D E hD;have hcP:Z4 ((ZL7 s D).map Plc.enc)=true:=Zw (λt=>rfl) _
 generalize ZL7 s D=P at*;have htk:List.take P.length (P.map Plc.enc)=P.map Plc.enc:=ZWL<|by simp
 simp only[ftA]at hf;simp only[stA]at hf;simp only[kwH,stC,stA,ZX6,ZWQ]at l1;unfold Knw.enc;rw[Z5 (f:=22) rfl rfl];simp only[go_sem,put,c22,c22L0,stA,hf,ZWm,l1,q4,q5,hcP,htk,ZXu,beq_self_eq_true]
def kvH(D:List Str)(E:List Endz)(P:List Plc):Hp:=[.row 2 [.agg [.isl false false 1 [],.isl false false 3 []]],.row 2 [ftA false false D E],.row 11<|P.map Plc.enc]
structure StK(s:Sta):Prop where
 e:StE s
 doors:s.Bc.length<=500
 regions:s.Ga.length<=400
structure IsKn(s:Sta)(id:Str)(k:Knw):Prop where
 no:Zn s id<0->k=⟨[],[],[]⟩
 at':¬Zn s id<0->IsFate s id k.D k.E
 P:k.P=ZL7 s k.D
def IsKn.sz{s:Sta}{id:Str}{k:Knw}(h:IsKn s id k):KnS k:=by
 by_cases c:Zn s id<0
 .rw[h.no c];exact⟨ZWy _,ZWy _,ZWy _⟩
 .have hf:=h.at' c;have hl:=ZLx s k.D;rw[<-h.P]at hl;have h1:=hf.dl;have h2:=hf.el;exact⟨by omega,by omega,by omega⟩
def ZM2(s:Sta)(hp:Jx s=true)(hs:StK s)(id:Str):∃k:Knw,IsKn s id k/\pfn rE 22 [stA s,.str id]=some k.enc/\True:=by
 have hA:=ZLu s hs.e hs.regions;cases c:decide (Zn s id<0)with
 |true=>
  have hk:ZEb s id=10:=by unfold ZEb;rw[hp,c];rfl
  have hf:=ZFi s hs.e id<|by rw[hk];decide
  rw[hk]at hf;exact⟨⟨[],[],[]⟩,⟨λ_=>rfl,λh=>absurd (of_decide_eq_true c) h,rfl⟩,ZLh s hA id [] [] 10 hf<|ZWy _,trivial⟩
 |false=>
  obtain⟨D,E,hf,hF⟩:=ZHv s hp hs.e hs.doors id c;exact⟨⟨D,E,ZL7 s D⟩,⟨λh=>absurd h<|of_decide_eq_false c,λ_=>hF,rfl⟩,ZLh s hA id D E 0 hf hF.dl,trivial⟩
def ZLp(s:Sta)(hp:Jx s=true)(hs:StK s):∃K:Str->Knw,∀id,IsKn s id (K id)/\pfn rE 22 [stA s,.str id]=some (K id).enc/\True:=
 ⟨λid=>(ZM2 s hp hs id).choose,λid=>(ZM2 s hp hs id).choose_spec⟩
structure Ntc where
 W:Str
 Od:List Str
 Oe:List Endz
 Nd:List Str
 Ne:List Endz
 Moved:Bool
 Oa:List Plc
 Na:List Plc
def Ntc.enc(n:Ntc):AV:=.agg [.str n.W,.isl false false 1<|n.Od.map encS,.isl false false 3<|n.Oe.map Endz.enc,.isl false false 1<|n.Nd.map encS,.isl false false 3<|n.Ne.map Endz.enc,.bool n.Moved,.isl false false 11<|n.Oa.map Plc.enc,.isl false false 11<|n.Na.map Plc.enc]
def ntc(Ka Kb:Str->Knw)(w:Wch):Ntc:=⟨w.Id,(Ka w.Gc).D,(Ka w.Gc).E,(Kb w.Gc).D,(Kb w.Gc).E,!eqL Zvh (Ka w.Gc).P (Kb w.Gc).P,(Ka w.Gc).P,(Kb w.Gc).P⟩
def ZL6(Ka Kb:Str->Knw)(l:List Wch):List Ntc:=(l.filter λw=>!ZLb (Ka w.Gc) (Kb w.Gc)).map (ntc Ka Kb)
def ZLy(Ka Kb:Str->Knw){l:List Wch}{i:Nat}{w:Wch}(h:l[i]?=some w):ZL6 Ka Kb (l.take<|i+1)=ZL6 Ka Kb (l.take i)++(bif ZLb (Ka w.Gc) (Kb w.Gc)then []else [ntc Ka Kb w]):=by
 have hi:=ZWx.1 h;unfold ZL6;rw[ZYu hi.1,ZYh,ZWM,hi.2];cases c:ZLb (Ka w.Gc) (Kb w.Gc)<;>simp[List.filter,c]
def ZM3(Ka Kb:Str->Knw)(l:List Wch):(ZL6 Ka Kb l).length<=l.length:=by
 unfold ZL6;rw[ZWm];exact ZXU _ _
def cmH(N:List Ntc):Hp:=[.row 8<|N.map Ntc.enc,.row 1 [.sl 0 N.length 0 N.length false]]
def ZMt(a b:Sta)(w:Wch)(k m:Knw)(hk:pfn rE 22 [stA a,.str w.Gc]=some k.enc)(hm:pfn rE 22 [stA b,.str w.Gc]=some m.enc)(sk:KnS k)(N:List Ntc)(hN:N.length<=1000)(o:AObj)(ho:∀n,Zj n o=true):
 fnV rE 21 [w.enc,stC a,stC b,.ptr 1 0 0 1] (cmH N++[o])=some (.tup [],cmH (N++(bif ZLb k m then []else [⟨w.Id,k.D,k.E,m.D,m.E,!eqL Zvh k.P m.P,k.P,m.P⟩]))++[o,.row 3 [k.enc],.row 3 [m.enc]]):=by
 have hi:=ZoJ k m sk;have hd:=ZM0 false false k.P m.P (by have:=sk.p;omega)
 have hbN:∀n(K:List Ntc),Zd n (K.map Ntc.enc)=true:=λn K=>ZN _ (Zw (λt=>by
  unfold Ntc.enc;simp[clean,Z4,ZET,ZEU,show ∀K:List Plc,Z4 (K.map Plc.enc)=true from λK=>Zw (λt=>rfl) K]) K)
 unfold Knw.enc at hk hm hi;unfold Wch.enc Knw.enc;simp only[stA]at hk hm;cases c:ZLb k m with
 |true=>
  rw[c]at hi;rw[cond_true,ZXe];rw[Q6 (f:=21) rfl rfl];simp only[go_sem,c21,stC,stA,cmH,hk,hm,hi,hbN,ho]
 |false=>
  rw[c]at hi;rw[cond_false];rw[Q6 (f:=21) rfl rfl];have hap:=λ(r1 r3 r4 r5:AObj)(ys:AV)(hy:fits 8 ys=true)=>XC (h:=[.row 8<|N.map Ntc.enc,r1,r3,r4,r5]) (fz:=false) (b:=0) (g:=N.length) (sz:=8) (es:=N.map Ntc.enc) (bw:=false) (ex:=false) (ys:=[ys]) (bytes:=168) (by unfold rowAt;simp) rfl (by simp[hy]) (by omega) (by omega) (by simp;omega)
  have hap:=λr1 r3 r4 r5=>hap r1 r3 r4 r5 (Ntc.enc ⟨w.Id,k.D,k.E,m.D,m.E,!eqL Zvh k.P m.P,k.P,m.P⟩) rfl
  simp only[Ntc.enc]at hap;simp only[go_sem,c21,stC,stA,cmH,hk,hm,hi,hd,hap,hbN,ho,Ntc.enc,ZWM,ZWz,ZXs]
def ZM4(N:List Ntc):Z4 (N.map Ntc.enc)=true:=Zw (λt=>by
 unfold Ntc.enc;simp[clean,Z4,ZET,ZEU,show ∀K:List Plc,Z4 (K.map Plc.enc)=true from λK=>Zw (λt=>rfl) K]) N
def ZMu(a b:Sta)(Ka Kb:Str->Knw)(bw ex:Bool)(l:List Wch)(hk:∀w∈l,pfn rE 22 [stA a,.str w.Gc]=some (Ka w.Gc).enc)(hm:∀w∈l,pfn rE 22 [stA b,.str w.Gc]=some (Kb w.Gc).enc)(sk:∀w∈l,KnS<|Ka w.Gc)(hl:l.length<=1000):
 ∃fr',Zg rE [8,9,26,27,28] c7L0b [(8,.ptr 1 0 0 1),(9,.clo (.func 21) [] [stC a,stC b,.ptr 1 0 0 1]),(26,.isl bw ex 2<|l.map Wch.enc),(27,I l.length),(28,.int .i64 0)] (cmH [])=some (.exit 0,fr',cmH<|ZL6 Ka Kb l)/\get fr' 8=.ptr 1 0 0 1:=by
 have hbN:∀n(K:List Ntc),Zd n (K.map Ntc.enc)=true:=λn K=>ZN _<|ZM4 K
 have L:=Y8 (E:=rE) (live:=[8,9,26,27,28]) (b:=c7L0b) l.length (λi=>[(8,.ptr 1 0 0 1),(9,.clo (.func 21) [] [stC a,stC b,.ptr 1 0 0 1]),(26,.isl bw ex 2<|l.map Wch.enc),(27,I l.length),(28,I i)]) (λi=>cmH<|ZL6 Ka Kb<|l.take i) (λi=>rfl)
  (λi hi=>by
   obtain⟨x,hx⟩:∃x,l[i]?=some x:=⟨_,ZWu hi⟩;have hg:=Z6 (f:=Wch.enc) hx;have hi':=Zh hi;have hw:=Zx (n:=i)<|by omega
   have hs:=ZLy Ka Kb hx;have hle:(ZL6 Ka Kb<|l.take i).length<=1000:=by
    have h1:=ZM3 Ka Kb<|l.take i;rw[ZWT]at h1;omega
   have hxm:=ZWA hx;have h1:=ZMt a b x (Ka x.Gc) (Kb x.Gc) (hk x hxm) (hm x hxm) (sk x hxm) (ZL6 Ka Kb<|l.take i) hle;rw[hs];unfold ntc;generalize(bif ZLb (Ka x.Gc) (Kb x.Gc)then []else [(⟨x.Id,(Ka x.Gc).D,(Ka x.Gc).E,(Kb x.Gc).D,(Kb x.Gc).E,!eqL Zvh (Ka x.Gc).P (Kb x.Gc).P,(Ka x.Gc).P,(Kb x.Gc).P⟩:Ntc)])=M at*;generalize ZL6 Ka Kb (l.take i)=N at*;have h2:=h1 (.row 2 [x.enc])<|λn=>rfl
   simp only[Wch.enc,cmH,ZWO,ZWZ,stC,stA]at h2 hg;refine⟨_,by simp only[go_sem,RL,c7L0b,cmH,stC,stA,hg,hi',hw,h2,hbN];rfl,?_⟩
   simp only[go_sem,stC,stA])
  (e:=.exit 0) (by simp only[go_sem,cmH,c7L0b,ZG];rfl) (by simp)
 rw[ZWR]at L;exact⟨_,L,by simp only[go_sem]⟩
def ZLz:AV:=.tup [.isl false false 8 [],I 1]
def ZLq(N:List Ntc):AV:=.tup [.isl false false 8<|N.map Ntc.enc,I 0]
def ZM5(a b:Sta)(ha:StE a)(hb:StE b)(bw ex:Bool)(l:List Wch)(hl:l.length<=100000)(h:(Jx a&&(Jx b&&wpB l))=false):pfn rE 7 [stA a,stA b,.isl bw ex 2<|l.map Wch.enc]=some ZLz:=by
 have h1:=Z3i a ha;have h2:=Z3i b hb;have h3:=ZLZ bw ex l hl;simp only[stA]at h1 h2;unfold ZLz;rw[Z5 (f:=7) rfl rfl];cases c1:Jx a with
 |false=>
  rw[c1]at h1;simp only[go_sem,c7,stA,h1,ZWq]
 |true=>
 cases c2:Jx b with
 |false=>
  rw[c1]at h1;rw[c2]at h2;simp only[go_sem,c7,stA,h1,h2,ZWq,ZWo]
 |true=>
 have c5003:wpB l=false:=by rw[c1,c2]at h;exact h
 rw[c1]at h1;rw[c2]at h2;rw[c5003]at h3;simp only[go_sem,c7,stA,h1,h2,h3,ZWq,ZWo]
def ZLk(a b:Sta)(ha:StE a)(hb:StE b)(ex:Bool)(bw:Bool)(l:List Wch)(pa:Jx a=true)(pb:Jx b=true)(pl:wpB l=true)(Ka Kb:Str->Knw)(hk:∀w∈l,pfn rE 22 [stA a,.str w.Gc]=some (Ka w.Gc).enc)(hm:∀w∈l,pfn rE 22 [stA b,.str w.Gc]=some (Kb w.Gc).enc)(sk:∀w∈l,KnS<|Ka w.Gc):pfn rE 7 [stA a,stA b,.isl bw ex 2<|l.map Wch.enc]=some (ZLq<|ZL6 Ka Kb l):=by
 have hl:l.length<=1000:=by
  have h1:=pl;unfold wpB at h1;rw[ZWn]at h1;have:=of_decide_eq_true h1.2;omega
 have h1:=Z3i a ha;have h2:=Z3i b hb;have h3:=ZLZ bw ex l<|by omega
 obtain⟨fr',l1,q8⟩:=ZMu a b Ka Kb bw ex l hk hm sk hl;have hcN:=ZM4<|ZL6 Ka Kb l;rw[pa]at h1;rw[pb]at h2;rw[pl]at h3;generalize ZL6 Ka Kb l=N at*;have htk:List.take N.length (N.map Ntc.enc)=N.map Ntc.enc:=ZWL<|by simp
 simp only[stA]at h1 h2;simp only[stC,stA,cmH,ZX6,ZWQ]at l1;unfold ZLq;rw[Z5 (f:=7) rfl rfl];simp only[go_sem,put,c7,c7L0,stA,h1,h2,h3,ZWm,l1,q8,hcN,htk,ZXu,beq_self_eq_true,ZWo]
end Go.AM
