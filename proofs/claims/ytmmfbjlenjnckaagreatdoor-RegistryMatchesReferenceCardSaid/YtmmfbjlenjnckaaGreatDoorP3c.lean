/- What the functions of the program compute, part 3, for RegistryMatchesReference. No condition. -/
import Derived.Test.YtmmfbjlenjnckaaGreatDoorP3b
import Derived.Test.YtmmfbjlenjnckaaGreatDoorQ5
set_option linter.unusedVariables false
set_option linter.defProp false
set_option linter.unusedSimpArgs false
set_option linter.unusedSectionVars false
namespace Go.AM
open Go
variable [REdz]
def ZOe(x y:Int):(x != y) = !(x==y):=rfl
set_option maxRecDepth 4000 in
set_option maxHeartbeats 2000000 in
def ZTU(a b:Gt)(h1:a.Ids.l.length<=1000000)(h2:a.Lst.l.length<=1000000)(h3:a.bk.l.length<=1000000)(h4:a.Path.l.length<=1000000):pfn rE 132 [evA a,evA b]=some (.bool<|ZP1 a b):=by
 have hh:(a.An.N==b.An.N&&(Z3 a.An.bm b.An.bm&&(a.An.Num==b.An.Num&&a.An.Den==b.An.Den)))=QL a.An b.An:=rfl;have hp:(a.bg.X==b.bg.X&&a.bg.Y==b.bg.Y)=QK a.bg b.bg:=rfl;rw[Z5 (f:=132) rfl rfl];unfold ZP1 ZQg;cases d0:(a.bq==b.bq)with
 |false=>simp only[go_sem,c132,ZOe,hh,hp,d0,ZWU,ZWS,ZWV,ZWR,ZWX,ZWW,ZWQ]
 |true=>
 cases d1:(a.Day==b.Day)with
 |false=>simp only[go_sem,c132,ZOe,hh,hp,d0,d1,ZWU,ZWS,ZWV,ZWR,ZWX,ZWW,ZWQ]
 |true=>
 cases d2:(a.A==b.A)with
 |false=>simp only[go_sem,c132,ZOe,hh,hp,d0,d1,d2,ZWU,ZWS,ZWV,ZWR,ZWX,ZWW,ZWQ]
 |true=>
 cases d3:(a.B==b.B)with
 |false=>simp only[go_sem,c132,ZOe,hh,hp,d0,d1,d2,d3,ZWU,ZWS,ZWV,ZWR,ZWX,ZWW,ZWQ]
 |true=>
 cases d4:(a.bv==b.bv)with
 |false=>simp only[go_sem,c132,ZOe,hh,hp,d0,d1,d2,d3,d4,ZWU,ZWS,ZWV,ZWR,ZWX,ZWW,ZWQ]
 |true=>
 cases d5:Z3 a.Id b.Id with
 |false=>simp only[go_sem,c132,ZOe,hh,hp,d0,d1,d2,d3,d4,d5,ZWU,ZWS,ZWV,ZWR,ZWX,ZWW,ZWQ]
 |true=>
 cases d6:Z3 a.br b.br with
 |false=>simp only[go_sem,c132,ZOe,hh,hp,d0,d1,d2,d3,d4,d5,d6,ZWU,ZWS,ZWV,ZWR,ZWX,ZWW,ZWQ]
 |true=>
 cases d7:Z3 a.Text b.Text with
 |false=>simp only[go_sem,c132,ZOe,hh,hp,d0,d1,d2,d3,d4,d5,d6,d7,ZWU,ZWS,ZWV,ZWR,ZWX,ZWW,ZWQ]
 |true=>
 cases d8:QL a.An b.An with
 |false=>simp only[go_sem,c132,ZOe,hh,hp,d0,d1,d2,d3,d4,d5,d6,d7,d8,ZWU,ZWS,ZWV,ZWR,ZWX,ZWW,ZWQ]
 |true=>
 cases d9:QK a.bg b.bg with
 |false=>simp only[go_sem,c132,ZOe,hh,hp,d0,d1,d2,d3,d4,d5,d6,d7,d8,d9,ZWU,ZWS,ZWV,ZWR,ZWX,ZWW,ZWQ]
 |true=>
 cases d10:((a.Ids.l.length:Int)==(b.Ids.l.length:Int))with
 |false=>simp only[go_sem,c132,ZOe,hh,hp,d0,d1,d2,d3,d4,d5,d6,d7,d8,d9,d10,ZWU,ZWS,ZWV,ZWR,ZWX,ZWW,ZWQ]
 |true=>
 cases d11:((a.Lst.l.length:Int)==(b.Lst.l.length:Int))with
 |false=>simp only[go_sem,c132,ZOe,hh,hp,d0,d1,d2,d3,d4,d5,d6,d7,d8,d9,d10,d11,ZWU,ZWS,ZWV,ZWR,ZWX,ZWW,ZWQ]
 |true=>
 have l0:a.Ids.l.length=b.Ids.l.length:=by have:=eq_of_beq d10;omega
 have l1:a.Lst.l.length=b.Lst.l.length:=by have:=eq_of_beq d11;omega
 obtain⟨f0,L0,L1,L2⟩:=ZTS a b l0 h1;cases g0:Zu (ZO7 Z3 b.Ids.l) 0 a.Ids.l with
 |false=>rw[g0]at L0;simp only[go_sem,c132,c132L0,ZOe,hh,hp,d0,d1,d2,d3,d4,d5,d6,d7,d8,d9,d10,d11,ZWU,ZWS,ZWV,ZWR,ZWX,ZWW,ZWQ,L0,L2 g0,ZX2]
 |true=>
 rw[g0]at L0;obtain⟨e2,e3⟩:=L1 g0;obtain⟨f1,M0,M1,M2⟩:=ZTT a b l1 h2;cases g1:Zu (ZO7 ZOk b.Lst.l) 0 a.Lst.l with
 |false=>rw[g1]at M0;simp only[go_sem,c132,c132L0,c132L1,ZOe,hh,hp,d0,d1,d2,d3,d4,d5,d6,d7,d8,d9,d10,d11,ZWU,ZWS,ZWV,ZWR,ZWX,ZWW,ZWQ,L0,e2,e3,M0,M2 g1,ZX2]
 |true=>
 rw[g1]at M0;obtain⟨k2,k3⟩:=M1 g1;have hN:=ZTQ a.bk.ex b.bk.ex a.bk.l b.bk.l h3;have hP:=ZTR a.Path.ex b.Path.ex a.Path.l b.Path.l h4;cases g2:ZOj Xg a.bk.l b.bk.l<;>rw[g2]at hN<;>simp only[go_sem,c132,c132L0,c132L1,ZOe,hh,hp,d0,d1,d2,d3,d4,d5,d6,d7,d8,d9,d10,d11,ZWU,ZWS,ZWV,ZWR,ZWX,ZWW,ZWQ,L0,e2,e3,M0,k2,k3,hN,hP]
def ZO2(e:Gt):Gt:=
 {bq:=e.bq,Day:=e.Day,
  A:=bif kIn e [1,13,14]then e.A else 0,
  B:=bif kIn e [13,14]then e.B else 0,
  bv:=bif kIn e [15]then e.bv else 0,
  Id:=bif kIn e [13,14]then emp else e.Id,
  br:=bif kIn e [4,6,7]then e.br else emp,
  Text:=bif kIn e [6,7,15]then e.Text else emp,
  Ids:=bif kIn e [10]then e.Ids else⟨false,[]⟩,
  bk:=bif kIn e [3]then e.bk else⟨false,[]⟩,
  An:=bif kIn e [6,10]then e.An else⟨0,emp,0,0⟩,
  bg:=bif kIn e [6,10]then e.bg else⟨0,0⟩,
  Path:=bif kIn e [1,2,5]then e.Path else⟨false,[]⟩,
  Lst:=bif kIn e [8,9]then e.Lst else⟨false,[]⟩}
def ZTV(e:Gt)(hk:e.bq=1):pfn rE 133 [evA e]=some (evA<|ZO2 e):=by
 have q1:(e.bq==1)=true:=by rw[hk];rfl
 have q2:(e.bq==2)=false:=by rw[hk];rfl
 have q5:(e.bq==5)=false:=by rw[hk];rfl
 have q3:(e.bq==3)=false:=by rw[hk];rfl
 have q4:(e.bq==4)=false:=by rw[hk];rfl
 have q6:(e.bq==6)=false:=by rw[hk];rfl
 have q7:(e.bq==7)=false:=by rw[hk];rfl
 have q8:(e.bq==8)=false:=by rw[hk];rfl
 have q9:(e.bq==9)=false:=by rw[hk];rfl
 have q10:(e.bq==10)=false:=by rw[hk];rfl
 have q13:(e.bq==13)=false:=by rw[hk];rfl
 have q14:(e.bq==14)=false:=by rw[hk];rfl
 have q15:(e.bq==15)=false:=by rw[hk];rfl
 have b0:kIn e [1,13,14]=true:=by unfold kIn;rw[hk];rfl
 have b1:kIn e [13,14]=false:=by unfold kIn;rw[hk];rfl
 have b2:kIn e [15]=false:=by unfold kIn;rw[hk];rfl
 have b3:kIn e [4,6,7]=false:=by unfold kIn;rw[hk];rfl
 have b4:kIn e [6,7,15]=false:=by unfold kIn;rw[hk];rfl
 have b5:kIn e [10]=false:=by unfold kIn;rw[hk];rfl
 have b6:kIn e [3]=false:=by unfold kIn;rw[hk];rfl
 have b7:kIn e [6,10]=false:=by unfold kIn;rw[hk];rfl
 have b8:kIn e [1,2,5]=true:=by unfold kIn;rw[hk];rfl
 have b9:kIn e [8,9]=false:=by unfold kIn;rw[hk];rfl
 rw[Z5 (f:=133) rfl rfl];unfold ZO2;simp only[go_sem,c133,q1,q2,q5,q3,q4,q6,q7,q8,q9,q10,q13,q14,q15,b0,b1,b2,b3,b4,b5,b6,b7,b8,b9]
 try rfl
def ZTW(e:Gt)(hk:e.bq=2):pfn rE 133 [evA e]=some (evA<|ZO2 e):=by
 have q1:(e.bq==1)=false:=by rw[hk];rfl
 have q2:(e.bq==2)=true:=by rw[hk];rfl
 have q5:(e.bq==5)=false:=by rw[hk];rfl
 have q3:(e.bq==3)=false:=by rw[hk];rfl
 have q4:(e.bq==4)=false:=by rw[hk];rfl
 have q6:(e.bq==6)=false:=by rw[hk];rfl
 have q7:(e.bq==7)=false:=by rw[hk];rfl
 have q8:(e.bq==8)=false:=by rw[hk];rfl
 have q9:(e.bq==9)=false:=by rw[hk];rfl
 have q10:(e.bq==10)=false:=by rw[hk];rfl
 have q13:(e.bq==13)=false:=by rw[hk];rfl
 have q14:(e.bq==14)=false:=by rw[hk];rfl
 have q15:(e.bq==15)=false:=by rw[hk];rfl
 have b0:kIn e [1,13,14]=false:=by unfold kIn;rw[hk];rfl
 have b1:kIn e [13,14]=false:=by unfold kIn;rw[hk];rfl
 have b2:kIn e [15]=false:=by unfold kIn;rw[hk];rfl
 have b3:kIn e [4,6,7]=false:=by unfold kIn;rw[hk];rfl
 have b4:kIn e [6,7,15]=false:=by unfold kIn;rw[hk];rfl
 have b5:kIn e [10]=false:=by unfold kIn;rw[hk];rfl
 have b6:kIn e [3]=false:=by unfold kIn;rw[hk];rfl
 have b7:kIn e [6,10]=false:=by unfold kIn;rw[hk];rfl
 have b8:kIn e [1,2,5]=true:=by unfold kIn;rw[hk];rfl
 have b9:kIn e [8,9]=false:=by unfold kIn;rw[hk];rfl
 rw[Z5 (f:=133) rfl rfl];unfold ZO2;simp only[go_sem,c133,q1,q2,q5,q3,q4,q6,q7,q8,q9,q10,q13,q14,q15,b0,b1,b2,b3,b4,b5,b6,b7,b8,b9]
 try rfl
def ZTX(e:Gt)(hk:e.bq=3):pfn rE 133 [evA e]=some (evA<|ZO2 e):=by
 have q1:(e.bq==1)=false:=by rw[hk];rfl
 have q2:(e.bq==2)=false:=by rw[hk];rfl
 have q5:(e.bq==5)=false:=by rw[hk];rfl
 have q3:(e.bq==3)=true:=by rw[hk];rfl
 have q4:(e.bq==4)=false:=by rw[hk];rfl
 have q6:(e.bq==6)=false:=by rw[hk];rfl
 have q7:(e.bq==7)=false:=by rw[hk];rfl
 have q8:(e.bq==8)=false:=by rw[hk];rfl
 have q9:(e.bq==9)=false:=by rw[hk];rfl
 have q10:(e.bq==10)=false:=by rw[hk];rfl
 have q13:(e.bq==13)=false:=by rw[hk];rfl
 have q14:(e.bq==14)=false:=by rw[hk];rfl
 have q15:(e.bq==15)=false:=by rw[hk];rfl
 have b0:kIn e [1,13,14]=false:=by unfold kIn;rw[hk];rfl
 have b1:kIn e [13,14]=false:=by unfold kIn;rw[hk];rfl
 have b2:kIn e [15]=false:=by unfold kIn;rw[hk];rfl
 have b3:kIn e [4,6,7]=false:=by unfold kIn;rw[hk];rfl
 have b4:kIn e [6,7,15]=false:=by unfold kIn;rw[hk];rfl
 have b5:kIn e [10]=false:=by unfold kIn;rw[hk];rfl
 have b6:kIn e [3]=true:=by unfold kIn;rw[hk];rfl
 have b7:kIn e [6,10]=false:=by unfold kIn;rw[hk];rfl
 have b8:kIn e [1,2,5]=false:=by unfold kIn;rw[hk];rfl
 have b9:kIn e [8,9]=false:=by unfold kIn;rw[hk];rfl
 rw[Z5 (f:=133) rfl rfl];unfold ZO2;simp only[go_sem,c133,q1,q2,q5,q3,q4,q6,q7,q8,q9,q10,q13,q14,q15,b0,b1,b2,b3,b4,b5,b6,b7,b8,b9]
 try rfl
def ZTY(e:Gt)(hk:e.bq=4):pfn rE 133 [evA e]=some (evA<|ZO2 e):=by
 have q1:(e.bq==1)=false:=by rw[hk];rfl
 have q2:(e.bq==2)=false:=by rw[hk];rfl
 have q5:(e.bq==5)=false:=by rw[hk];rfl
 have q3:(e.bq==3)=false:=by rw[hk];rfl
 have q4:(e.bq==4)=true:=by rw[hk];rfl
 have q6:(e.bq==6)=false:=by rw[hk];rfl
 have q7:(e.bq==7)=false:=by rw[hk];rfl
 have q8:(e.bq==8)=false:=by rw[hk];rfl
 have q9:(e.bq==9)=false:=by rw[hk];rfl
 have q10:(e.bq==10)=false:=by rw[hk];rfl
 have q13:(e.bq==13)=false:=by rw[hk];rfl
 have q14:(e.bq==14)=false:=by rw[hk];rfl
 have q15:(e.bq==15)=false:=by rw[hk];rfl
 have b0:kIn e [1,13,14]=false:=by unfold kIn;rw[hk];rfl
 have b1:kIn e [13,14]=false:=by unfold kIn;rw[hk];rfl
 have b2:kIn e [15]=false:=by unfold kIn;rw[hk];rfl
 have b3:kIn e [4,6,7]=true:=by unfold kIn;rw[hk];rfl
 have b4:kIn e [6,7,15]=false:=by unfold kIn;rw[hk];rfl
 have b5:kIn e [10]=false:=by unfold kIn;rw[hk];rfl
 have b6:kIn e [3]=false:=by unfold kIn;rw[hk];rfl
 have b7:kIn e [6,10]=false:=by unfold kIn;rw[hk];rfl
 have b8:kIn e [1,2,5]=false:=by unfold kIn;rw[hk];rfl
 have b9:kIn e [8,9]=false:=by unfold kIn;rw[hk];rfl
 rw[Z5 (f:=133) rfl rfl];unfold ZO2;simp only[go_sem,c133,q1,q2,q5,q3,q4,q6,q7,q8,q9,q10,q13,q14,q15,b0,b1,b2,b3,b4,b5,b6,b7,b8,b9]
 try rfl
def ZTZ(e:Gt)(hk:e.bq=5):pfn rE 133 [evA e]=some (evA<|ZO2 e):=by
 have q1:(e.bq==1)=false:=by rw[hk];rfl
 have q2:(e.bq==2)=false:=by rw[hk];rfl
 have q5:(e.bq==5)=true:=by rw[hk];rfl
 have q3:(e.bq==3)=false:=by rw[hk];rfl
 have q4:(e.bq==4)=false:=by rw[hk];rfl
 have q6:(e.bq==6)=false:=by rw[hk];rfl
 have q7:(e.bq==7)=false:=by rw[hk];rfl
 have q8:(e.bq==8)=false:=by rw[hk];rfl
 have q9:(e.bq==9)=false:=by rw[hk];rfl
 have q10:(e.bq==10)=false:=by rw[hk];rfl
 have q13:(e.bq==13)=false:=by rw[hk];rfl
 have q14:(e.bq==14)=false:=by rw[hk];rfl
 have q15:(e.bq==15)=false:=by rw[hk];rfl
 have b0:kIn e [1,13,14]=false:=by unfold kIn;rw[hk];rfl
 have b1:kIn e [13,14]=false:=by unfold kIn;rw[hk];rfl
 have b2:kIn e [15]=false:=by unfold kIn;rw[hk];rfl
 have b3:kIn e [4,6,7]=false:=by unfold kIn;rw[hk];rfl
 have b4:kIn e [6,7,15]=false:=by unfold kIn;rw[hk];rfl
 have b5:kIn e [10]=false:=by unfold kIn;rw[hk];rfl
 have b6:kIn e [3]=false:=by unfold kIn;rw[hk];rfl
 have b7:kIn e [6,10]=false:=by unfold kIn;rw[hk];rfl
 have b8:kIn e [1,2,5]=true:=by unfold kIn;rw[hk];rfl
 have b9:kIn e [8,9]=false:=by unfold kIn;rw[hk];rfl
 rw[Z5 (f:=133) rfl rfl];unfold ZO2;simp only[go_sem,c133,q1,q2,q5,q3,q4,q6,q7,q8,q9,q10,q13,q14,q15,b0,b1,b2,b3,b4,b5,b6,b7,b8,b9]
 try rfl
def ZU0(e:Gt)(hk:e.bq=6):pfn rE 133 [evA e]=some (evA<|ZO2 e):=by
 have q1:(e.bq==1)=false:=by rw[hk];rfl
 have q2:(e.bq==2)=false:=by rw[hk];rfl
 have q5:(e.bq==5)=false:=by rw[hk];rfl
 have q3:(e.bq==3)=false:=by rw[hk];rfl
 have q4:(e.bq==4)=false:=by rw[hk];rfl
 have q6:(e.bq==6)=true:=by rw[hk];rfl
 have q7:(e.bq==7)=false:=by rw[hk];rfl
 have q8:(e.bq==8)=false:=by rw[hk];rfl
 have q9:(e.bq==9)=false:=by rw[hk];rfl
 have q10:(e.bq==10)=false:=by rw[hk];rfl
 have q13:(e.bq==13)=false:=by rw[hk];rfl
 have q14:(e.bq==14)=false:=by rw[hk];rfl
 have q15:(e.bq==15)=false:=by rw[hk];rfl
 have b0:kIn e [1,13,14]=false:=by unfold kIn;rw[hk];rfl
 have b1:kIn e [13,14]=false:=by unfold kIn;rw[hk];rfl
 have b2:kIn e [15]=false:=by unfold kIn;rw[hk];rfl
 have b3:kIn e [4,6,7]=true:=by unfold kIn;rw[hk];rfl
 have b4:kIn e [6,7,15]=true:=by unfold kIn;rw[hk];rfl
 have b5:kIn e [10]=false:=by unfold kIn;rw[hk];rfl
 have b6:kIn e [3]=false:=by unfold kIn;rw[hk];rfl
 have b7:kIn e [6,10]=true:=by unfold kIn;rw[hk];rfl
 have b8:kIn e [1,2,5]=false:=by unfold kIn;rw[hk];rfl
 have b9:kIn e [8,9]=false:=by unfold kIn;rw[hk];rfl
 rw[Z5 (f:=133) rfl rfl];unfold ZO2;simp only[go_sem,c133,q1,q2,q5,q3,q4,q6,q7,q8,q9,q10,q13,q14,q15,b0,b1,b2,b3,b4,b5,b6,b7,b8,b9]
 try rfl
def ZU1(e:Gt)(hk:e.bq=7):pfn rE 133 [evA e]=some (evA<|ZO2 e):=by
 have q1:(e.bq==1)=false:=by rw[hk];rfl
 have q2:(e.bq==2)=false:=by rw[hk];rfl
 have q5:(e.bq==5)=false:=by rw[hk];rfl
 have q3:(e.bq==3)=false:=by rw[hk];rfl
 have q4:(e.bq==4)=false:=by rw[hk];rfl
 have q6:(e.bq==6)=false:=by rw[hk];rfl
 have q7:(e.bq==7)=true:=by rw[hk];rfl
 have q8:(e.bq==8)=false:=by rw[hk];rfl
 have q9:(e.bq==9)=false:=by rw[hk];rfl
 have q10:(e.bq==10)=false:=by rw[hk];rfl
 have q13:(e.bq==13)=false:=by rw[hk];rfl
 have q14:(e.bq==14)=false:=by rw[hk];rfl
 have q15:(e.bq==15)=false:=by rw[hk];rfl
 have b0:kIn e [1,13,14]=false:=by unfold kIn;rw[hk];rfl
 have b1:kIn e [13,14]=false:=by unfold kIn;rw[hk];rfl
 have b2:kIn e [15]=false:=by unfold kIn;rw[hk];rfl
 have b3:kIn e [4,6,7]=true:=by unfold kIn;rw[hk];rfl
 have b4:kIn e [6,7,15]=true:=by unfold kIn;rw[hk];rfl
 have b5:kIn e [10]=false:=by unfold kIn;rw[hk];rfl
 have b6:kIn e [3]=false:=by unfold kIn;rw[hk];rfl
 have b7:kIn e [6,10]=false:=by unfold kIn;rw[hk];rfl
 have b8:kIn e [1,2,5]=false:=by unfold kIn;rw[hk];rfl
 have b9:kIn e [8,9]=false:=by unfold kIn;rw[hk];rfl
 rw[Z5 (f:=133) rfl rfl];unfold ZO2;simp only[go_sem,c133,q1,q2,q5,q3,q4,q6,q7,q8,q9,q10,q13,q14,q15,b0,b1,b2,b3,b4,b5,b6,b7,b8,b9]
 try rfl
def ZU2(e:Gt)(hk:e.bq=8):pfn rE 133 [evA e]=some (evA<|ZO2 e):=by
 have q1:(e.bq==1)=false:=by rw[hk];rfl
 have q2:(e.bq==2)=false:=by rw[hk];rfl
 have q5:(e.bq==5)=false:=by rw[hk];rfl
 have q3:(e.bq==3)=false:=by rw[hk];rfl
 have q4:(e.bq==4)=false:=by rw[hk];rfl
 have q6:(e.bq==6)=false:=by rw[hk];rfl
 have q7:(e.bq==7)=false:=by rw[hk];rfl
 have q8:(e.bq==8)=true:=by rw[hk];rfl
 have q9:(e.bq==9)=false:=by rw[hk];rfl
 have q10:(e.bq==10)=false:=by rw[hk];rfl
 have q13:(e.bq==13)=false:=by rw[hk];rfl
 have q14:(e.bq==14)=false:=by rw[hk];rfl
 have q15:(e.bq==15)=false:=by rw[hk];rfl
 have b0:kIn e [1,13,14]=false:=by unfold kIn;rw[hk];rfl
 have b1:kIn e [13,14]=false:=by unfold kIn;rw[hk];rfl
 have b2:kIn e [15]=false:=by unfold kIn;rw[hk];rfl
 have b3:kIn e [4,6,7]=false:=by unfold kIn;rw[hk];rfl
 have b4:kIn e [6,7,15]=false:=by unfold kIn;rw[hk];rfl
 have b5:kIn e [10]=false:=by unfold kIn;rw[hk];rfl
 have b6:kIn e [3]=false:=by unfold kIn;rw[hk];rfl
 have b7:kIn e [6,10]=false:=by unfold kIn;rw[hk];rfl
 have b8:kIn e [1,2,5]=false:=by unfold kIn;rw[hk];rfl
 have b9:kIn e [8,9]=true:=by unfold kIn;rw[hk];rfl
 rw[Z5 (f:=133) rfl rfl];unfold ZO2;simp only[go_sem,c133,q1,q2,q5,q3,q4,q6,q7,q8,q9,q10,q13,q14,q15,b0,b1,b2,b3,b4,b5,b6,b7,b8,b9]
 try rfl
def ZU3(e:Gt)(hk:e.bq=9):pfn rE 133 [evA e]=some (evA<|ZO2 e):=by
 have q1:(e.bq==1)=false:=by rw[hk];rfl
 have q2:(e.bq==2)=false:=by rw[hk];rfl
 have q5:(e.bq==5)=false:=by rw[hk];rfl
 have q3:(e.bq==3)=false:=by rw[hk];rfl
 have q4:(e.bq==4)=false:=by rw[hk];rfl
 have q6:(e.bq==6)=false:=by rw[hk];rfl
 have q7:(e.bq==7)=false:=by rw[hk];rfl
 have q8:(e.bq==8)=false:=by rw[hk];rfl
 have q9:(e.bq==9)=true:=by rw[hk];rfl
 have q10:(e.bq==10)=false:=by rw[hk];rfl
 have q13:(e.bq==13)=false:=by rw[hk];rfl
 have q14:(e.bq==14)=false:=by rw[hk];rfl
 have q15:(e.bq==15)=false:=by rw[hk];rfl
 have b0:kIn e [1,13,14]=false:=by unfold kIn;rw[hk];rfl
 have b1:kIn e [13,14]=false:=by unfold kIn;rw[hk];rfl
 have b2:kIn e [15]=false:=by unfold kIn;rw[hk];rfl
 have b3:kIn e [4,6,7]=false:=by unfold kIn;rw[hk];rfl
 have b4:kIn e [6,7,15]=false:=by unfold kIn;rw[hk];rfl
 have b5:kIn e [10]=false:=by unfold kIn;rw[hk];rfl
 have b6:kIn e [3]=false:=by unfold kIn;rw[hk];rfl
 have b7:kIn e [6,10]=false:=by unfold kIn;rw[hk];rfl
 have b8:kIn e [1,2,5]=false:=by unfold kIn;rw[hk];rfl
 have b9:kIn e [8,9]=true:=by unfold kIn;rw[hk];rfl
 rw[Z5 (f:=133) rfl rfl];unfold ZO2;simp only[go_sem,c133,q1,q2,q5,q3,q4,q6,q7,q8,q9,q10,q13,q14,q15,b0,b1,b2,b3,b4,b5,b6,b7,b8,b9]
 try rfl
def ZU4(e:Gt)(hk:e.bq=10):pfn rE 133 [evA e]=some (evA<|ZO2 e):=by
 have q1:(e.bq==1)=false:=by rw[hk];rfl
 have q2:(e.bq==2)=false:=by rw[hk];rfl
 have q5:(e.bq==5)=false:=by rw[hk];rfl
 have q3:(e.bq==3)=false:=by rw[hk];rfl
 have q4:(e.bq==4)=false:=by rw[hk];rfl
 have q6:(e.bq==6)=false:=by rw[hk];rfl
 have q7:(e.bq==7)=false:=by rw[hk];rfl
 have q8:(e.bq==8)=false:=by rw[hk];rfl
 have q9:(e.bq==9)=false:=by rw[hk];rfl
 have q10:(e.bq==10)=true:=by rw[hk];rfl
 have q13:(e.bq==13)=false:=by rw[hk];rfl
 have q14:(e.bq==14)=false:=by rw[hk];rfl
 have q15:(e.bq==15)=false:=by rw[hk];rfl
 have b0:kIn e [1,13,14]=false:=by unfold kIn;rw[hk];rfl
 have b1:kIn e [13,14]=false:=by unfold kIn;rw[hk];rfl
 have b2:kIn e [15]=false:=by unfold kIn;rw[hk];rfl
 have b3:kIn e [4,6,7]=false:=by unfold kIn;rw[hk];rfl
 have b4:kIn e [6,7,15]=false:=by unfold kIn;rw[hk];rfl
 have b5:kIn e [10]=true:=by unfold kIn;rw[hk];rfl
 have b6:kIn e [3]=false:=by unfold kIn;rw[hk];rfl
 have b7:kIn e [6,10]=true:=by unfold kIn;rw[hk];rfl
 have b8:kIn e [1,2,5]=false:=by unfold kIn;rw[hk];rfl
 have b9:kIn e [8,9]=false:=by unfold kIn;rw[hk];rfl
 rw[Z5 (f:=133) rfl rfl];unfold ZO2;simp only[go_sem,c133,q1,q2,q5,q3,q4,q6,q7,q8,q9,q10,q13,q14,q15,b0,b1,b2,b3,b4,b5,b6,b7,b8,b9]
 try rfl
def ZU5(e:Gt)(hk:e.bq=11):pfn rE 133 [evA e]=some (evA<|ZO2 e):=by
 have q1:(e.bq==1)=false:=by rw[hk];rfl
 have q2:(e.bq==2)=false:=by rw[hk];rfl
 have q5:(e.bq==5)=false:=by rw[hk];rfl
 have q3:(e.bq==3)=false:=by rw[hk];rfl
 have q4:(e.bq==4)=false:=by rw[hk];rfl
 have q6:(e.bq==6)=false:=by rw[hk];rfl
 have q7:(e.bq==7)=false:=by rw[hk];rfl
 have q8:(e.bq==8)=false:=by rw[hk];rfl
 have q9:(e.bq==9)=false:=by rw[hk];rfl
 have q10:(e.bq==10)=false:=by rw[hk];rfl
 have q13:(e.bq==13)=false:=by rw[hk];rfl
 have q14:(e.bq==14)=false:=by rw[hk];rfl
 have q15:(e.bq==15)=false:=by rw[hk];rfl
 have b0:kIn e [1,13,14]=false:=by unfold kIn;rw[hk];rfl
 have b1:kIn e [13,14]=false:=by unfold kIn;rw[hk];rfl
 have b2:kIn e [15]=false:=by unfold kIn;rw[hk];rfl
 have b3:kIn e [4,6,7]=false:=by unfold kIn;rw[hk];rfl
 have b4:kIn e [6,7,15]=false:=by unfold kIn;rw[hk];rfl
 have b5:kIn e [10]=false:=by unfold kIn;rw[hk];rfl
 have b6:kIn e [3]=false:=by unfold kIn;rw[hk];rfl
 have b7:kIn e [6,10]=false:=by unfold kIn;rw[hk];rfl
 have b8:kIn e [1,2,5]=false:=by unfold kIn;rw[hk];rfl
 have b9:kIn e [8,9]=false:=by unfold kIn;rw[hk];rfl
 rw[Z5 (f:=133) rfl rfl];unfold ZO2;simp only[go_sem,c133,q1,q2,q5,q3,q4,q6,q7,q8,q9,q10,q13,q14,q15,b0,b1,b2,b3,b4,b5,b6,b7,b8,b9]
 try rfl
def ZU6(e:Gt)(hk:e.bq=12):pfn rE 133 [evA e]=some (evA<|ZO2 e):=by
 have q1:(e.bq==1)=false:=by rw[hk];rfl
 have q2:(e.bq==2)=false:=by rw[hk];rfl
 have q5:(e.bq==5)=false:=by rw[hk];rfl
 have q3:(e.bq==3)=false:=by rw[hk];rfl
 have q4:(e.bq==4)=false:=by rw[hk];rfl
 have q6:(e.bq==6)=false:=by rw[hk];rfl
 have q7:(e.bq==7)=false:=by rw[hk];rfl
 have q8:(e.bq==8)=false:=by rw[hk];rfl
 have q9:(e.bq==9)=false:=by rw[hk];rfl
 have q10:(e.bq==10)=false:=by rw[hk];rfl
 have q13:(e.bq==13)=false:=by rw[hk];rfl
 have q14:(e.bq==14)=false:=by rw[hk];rfl
 have q15:(e.bq==15)=false:=by rw[hk];rfl
 have b0:kIn e [1,13,14]=false:=by unfold kIn;rw[hk];rfl
 have b1:kIn e [13,14]=false:=by unfold kIn;rw[hk];rfl
 have b2:kIn e [15]=false:=by unfold kIn;rw[hk];rfl
 have b3:kIn e [4,6,7]=false:=by unfold kIn;rw[hk];rfl
 have b4:kIn e [6,7,15]=false:=by unfold kIn;rw[hk];rfl
 have b5:kIn e [10]=false:=by unfold kIn;rw[hk];rfl
 have b6:kIn e [3]=false:=by unfold kIn;rw[hk];rfl
 have b7:kIn e [6,10]=false:=by unfold kIn;rw[hk];rfl
 have b8:kIn e [1,2,5]=false:=by unfold kIn;rw[hk];rfl
 have b9:kIn e [8,9]=false:=by unfold kIn;rw[hk];rfl
 rw[Z5 (f:=133) rfl rfl];unfold ZO2;simp only[go_sem,c133,q1,q2,q5,q3,q4,q6,q7,q8,q9,q10,q13,q14,q15,b0,b1,b2,b3,b4,b5,b6,b7,b8,b9]
 try rfl
def ZU7(e:Gt)(hk:e.bq=13):pfn rE 133 [evA e]=some (evA<|ZO2 e):=by
 have q1:(e.bq==1)=false:=by rw[hk];rfl
 have q2:(e.bq==2)=false:=by rw[hk];rfl
 have q5:(e.bq==5)=false:=by rw[hk];rfl
 have q3:(e.bq==3)=false:=by rw[hk];rfl
 have q4:(e.bq==4)=false:=by rw[hk];rfl
 have q6:(e.bq==6)=false:=by rw[hk];rfl
 have q7:(e.bq==7)=false:=by rw[hk];rfl
 have q8:(e.bq==8)=false:=by rw[hk];rfl
 have q9:(e.bq==9)=false:=by rw[hk];rfl
 have q10:(e.bq==10)=false:=by rw[hk];rfl
 have q13:(e.bq==13)=true:=by rw[hk];rfl
 have q14:(e.bq==14)=false:=by rw[hk];rfl
 have q15:(e.bq==15)=false:=by rw[hk];rfl
 have b0:kIn e [1,13,14]=true:=by unfold kIn;rw[hk];rfl
 have b1:kIn e [13,14]=true:=by unfold kIn;rw[hk];rfl
 have b2:kIn e [15]=false:=by unfold kIn;rw[hk];rfl
 have b3:kIn e [4,6,7]=false:=by unfold kIn;rw[hk];rfl
 have b4:kIn e [6,7,15]=false:=by unfold kIn;rw[hk];rfl
 have b5:kIn e [10]=false:=by unfold kIn;rw[hk];rfl
 have b6:kIn e [3]=false:=by unfold kIn;rw[hk];rfl
 have b7:kIn e [6,10]=false:=by unfold kIn;rw[hk];rfl
 have b8:kIn e [1,2,5]=false:=by unfold kIn;rw[hk];rfl
 have b9:kIn e [8,9]=false:=by unfold kIn;rw[hk];rfl
 rw[Z5 (f:=133) rfl rfl];unfold ZO2;simp only[go_sem,c133,q1,q2,q5,q3,q4,q6,q7,q8,q9,q10,q13,q14,q15,b0,b1,b2,b3,b4,b5,b6,b7,b8,b9]
 try rfl
def ZU8(e:Gt)(hk:e.bq=14):pfn rE 133 [evA e]=some (evA<|ZO2 e):=by
 have q1:(e.bq==1)=false:=by rw[hk];rfl
 have q2:(e.bq==2)=false:=by rw[hk];rfl
 have q5:(e.bq==5)=false:=by rw[hk];rfl
 have q3:(e.bq==3)=false:=by rw[hk];rfl
 have q4:(e.bq==4)=false:=by rw[hk];rfl
 have q6:(e.bq==6)=false:=by rw[hk];rfl
 have q7:(e.bq==7)=false:=by rw[hk];rfl
 have q8:(e.bq==8)=false:=by rw[hk];rfl
 have q9:(e.bq==9)=false:=by rw[hk];rfl
 have q10:(e.bq==10)=false:=by rw[hk];rfl
 have q13:(e.bq==13)=false:=by rw[hk];rfl
 have q14:(e.bq==14)=true:=by rw[hk];rfl
 have q15:(e.bq==15)=false:=by rw[hk];rfl
 have b0:kIn e [1,13,14]=true:=by unfold kIn;rw[hk];rfl
 have b1:kIn e [13,14]=true:=by unfold kIn;rw[hk];rfl
 have b2:kIn e [15]=false:=by unfold kIn;rw[hk];rfl
 have b3:kIn e [4,6,7]=false:=by unfold kIn;rw[hk];rfl
 have b4:kIn e [6,7,15]=false:=by unfold kIn;rw[hk];rfl
 have b5:kIn e [10]=false:=by unfold kIn;rw[hk];rfl
 have b6:kIn e [3]=false:=by unfold kIn;rw[hk];rfl
 have b7:kIn e [6,10]=false:=by unfold kIn;rw[hk];rfl
 have b8:kIn e [1,2,5]=false:=by unfold kIn;rw[hk];rfl
 have b9:kIn e [8,9]=false:=by unfold kIn;rw[hk];rfl
 rw[Z5 (f:=133) rfl rfl];unfold ZO2;simp only[go_sem,c133,q1,q2,q5,q3,q4,q6,q7,q8,q9,q10,q13,q14,q15,b0,b1,b2,b3,b4,b5,b6,b7,b8,b9]
 try rfl
def ZU9(e:Gt)(hk:e.bq=15):pfn rE 133 [evA e]=some (evA<|ZO2 e):=by
 have q1:(e.bq==1)=false:=by rw[hk];rfl
 have q2:(e.bq==2)=false:=by rw[hk];rfl
 have q5:(e.bq==5)=false:=by rw[hk];rfl
 have q3:(e.bq==3)=false:=by rw[hk];rfl
 have q4:(e.bq==4)=false:=by rw[hk];rfl
 have q6:(e.bq==6)=false:=by rw[hk];rfl
 have q7:(e.bq==7)=false:=by rw[hk];rfl
 have q8:(e.bq==8)=false:=by rw[hk];rfl
 have q9:(e.bq==9)=false:=by rw[hk];rfl
 have q10:(e.bq==10)=false:=by rw[hk];rfl
 have q13:(e.bq==13)=false:=by rw[hk];rfl
 have q14:(e.bq==14)=false:=by rw[hk];rfl
 have q15:(e.bq==15)=true:=by rw[hk];rfl
 have b0:kIn e [1,13,14]=false:=by unfold kIn;rw[hk];rfl
 have b1:kIn e [13,14]=false:=by unfold kIn;rw[hk];rfl
 have b2:kIn e [15]=true:=by unfold kIn;rw[hk];rfl
 have b3:kIn e [4,6,7]=false:=by unfold kIn;rw[hk];rfl
 have b4:kIn e [6,7,15]=true:=by unfold kIn;rw[hk];rfl
 have b5:kIn e [10]=false:=by unfold kIn;rw[hk];rfl
 have b6:kIn e [3]=false:=by unfold kIn;rw[hk];rfl
 have b7:kIn e [6,10]=false:=by unfold kIn;rw[hk];rfl
 have b8:kIn e [1,2,5]=false:=by unfold kIn;rw[hk];rfl
 have b9:kIn e [8,9]=false:=by unfold kIn;rw[hk];rfl
 rw[Z5 (f:=133) rfl rfl];unfold ZO2;simp only[go_sem,c133,q1,q2,q5,q3,q4,q6,q7,q8,q9,q10,q13,q14,q15,b0,b1,b2,b3,b4,b5,b6,b7,b8,b9]
 try rfl
def ZUa(e:Gt)(hk:ZD e.bq 1 15=false):pfn rE 133 [evA e]=some (evA<|ZO2 e):=by
 have hk2:e.bq<1\/15<e.bq:=by by_cases h:e.bq<1;exact Or.inl h;by_cases h2:15<e.bq;exact Or.inr h2;exfalso;simp[ZD]at hk;omega
 have q1:(e.bq==1)=false:=by rw[beq_eq_false_iff_ne];omega
 have q2:(e.bq==2)=false:=by rw[beq_eq_false_iff_ne];omega
 have q5:(e.bq==5)=false:=by rw[beq_eq_false_iff_ne];omega
 have q3:(e.bq==3)=false:=by rw[beq_eq_false_iff_ne];omega
 have q4:(e.bq==4)=false:=by rw[beq_eq_false_iff_ne];omega
 have q6:(e.bq==6)=false:=by rw[beq_eq_false_iff_ne];omega
 have q7:(e.bq==7)=false:=by rw[beq_eq_false_iff_ne];omega
 have q8:(e.bq==8)=false:=by rw[beq_eq_false_iff_ne];omega
 have q9:(e.bq==9)=false:=by rw[beq_eq_false_iff_ne];omega
 have q10:(e.bq==10)=false:=by rw[beq_eq_false_iff_ne];omega
 have q13:(e.bq==13)=false:=by rw[beq_eq_false_iff_ne];omega
 have q14:(e.bq==14)=false:=by rw[beq_eq_false_iff_ne];omega
 have q15:(e.bq==15)=false:=by rw[beq_eq_false_iff_ne];omega
 have b0:kIn e [1,13,14]=false:=by unfold kIn;simp only[ZXR,ZY1,q1,q13,q14,ZXd]
 have b1:kIn e [13,14]=false:=by unfold kIn;simp only[ZXR,ZY1,q13,q14,ZXd]
 have b2:kIn e [15]=false:=by unfold kIn;simp only[ZXR,ZY1,q15,ZXd]
 have b3:kIn e [4,6,7]=false:=by unfold kIn;simp only[ZXR,ZY1,q4,q6,q7,ZXd]
 have b4:kIn e [6,7,15]=false:=by unfold kIn;simp only[ZXR,ZY1,q6,q7,q15,ZXd]
 have b5:kIn e [10]=false:=by unfold kIn;simp only[ZXR,ZY1,q10,ZXd]
 have b6:kIn e [3]=false:=by unfold kIn;simp only[ZXR,ZY1,q3,ZXd]
 have b7:kIn e [6,10]=false:=by unfold kIn;simp only[ZXR,ZY1,q6,q10,ZXd]
 have b8:kIn e [1,2,5]=false:=by unfold kIn;simp only[ZXR,ZY1,q1,q2,q5,ZXd]
 have b9:kIn e [8,9]=false:=by unfold kIn;simp only[ZXR,ZY1,q8,q9,ZXd]
 rw[Z5 (f:=133) rfl rfl];unfold ZO2;simp only[go_sem,c133,q1,q2,q5,q3,q4,q6,q7,q8,q9,q10,q13,q14,q15,b0,b1,b2,b3,b4,b5,b6,b7,b8,b9]
 try rfl
def ZOb(e:Gt):pfn rE 133 [evA e]=some (evA<|ZO2 e):=by
 cases h:ZD e.bq 1 15 with
 |false=>exact ZUa e h
 |true=>
  have hk:1<=e.bq/\e.bq<=15:=by simpa[ZD]using h
  have:e.bq=1\/e.bq=2\/e.bq=3\/e.bq=4\/e.bq=5\/e.bq=6\/e.bq=7\/e.bq=8\/e.bq=9\/e.bq=10\/e.bq=11\/e.bq=12\/e.bq=13\/e.bq=14\/e.bq=15:=by omega
  rcases this with h|h|h|h|h|h|h|h|h|h|h|h|h|h|h
  .exact ZTV e h
  .exact ZTW e h
  .exact ZTX e h
  .exact ZTY e h
  .exact ZTZ e h
  .exact ZU0 e h
  .exact ZU1 e h
  .exact ZU2 e h
  .exact ZU3 e h
  .exact ZU4 e h
  .exact ZU5 e h
  .exact ZU6 e h
  .exact ZU7 e h
  .exact ZU8 e h
  .exact ZU9 e h
def ZPG{α:Type}{eq:α->α->Bool}(hr:∀x,eq x x=true)(l:List α):∀(r:List α)(i:Nat),l.drop i=r->Zu (ZO7 eq l) i r=true
 |[],i,h=>rfl
 |x::r,i,h=>by
  have hx:l[i]?=some x:=by
   have:=ZYd (xs:=l) (i:=i) (j:=0);rw[h]at this;simpa using this.symm
  have hr':l.drop (i+1)=r:=by rw[<-ZXZ,h];rfl
  show(ZO7 eq l i x&&Zu (ZO7 eq l) (i+1) r)=true
  rw[ZPG hr l r (i+1) hr'];unfold ZO7;rw[hx];simp[hr]
def ZRB{α:Type}{eq:α->α->Bool}(hr:∀x,eq x x=true)(l:List α):ZOj eq l l=true:=by
 unfold ZOj;rw[ZPG hr l l 0 rfl];simp
def ZRC{α:Type}(eq:α->α->Bool)(l:List α):ZOj eq [] l=((l.length:Int)==0):=by
 unfold ZOj;show((((0:Nat):Int)==(l.length:Int))&&true)=_
 rw[ZWW,ZXq,beq_iff_eq,beq_iff_eq];omega
def ZOP(x:Str):Z3 x x=true:=(Ky _ _).2 rfl
def ZRD(x:HN):QL x x=true:=by unfold QL;simp[ZOP]
def ZQh(x:Pt):QK x x=true:=by unfold QK;simp
def ZUb(x:Nm):Xg x x=true:=by unfold Xg;simp[ZOP]
def ZUc(x:Ent):ZOk x x=true:=by unfold ZOk;simp[ZOP,ZRD,ZQh]
def ZOp(x y:Int):(x==y)=(y==x):=Bool.beq_comm
def ZRE(x y:HN):QL x y=QL y x:=by
 unfold QL;rw[ZOp x.N,ZOZ,ZOp x.Num,ZOp x.Den]
def ZUd(x y:Pt):QK x y=QK y x:=by
 unfold QK;rw[ZOp x.X,ZOp x.Y]
def ZPH{s:Str}:Z3 s emp=true↔s.size=0:=by
 rw[Ky];constructor
 .rintro rfl;rfl
 .intro e;exact ByteArray.ext<|ZYw e
def ZUe(x:Gt):Z3 (NF x) emp=(Z3 x.Id emp&&(Z3 x.br emp&&Z3 x.Text emp)):=by
 unfold NF;rw[ZXq,ZWT,ZWT,ZPH,ZPH,ZPH,ZPH,ByteArray.size_append,ByteArray.size_append];omega
def ZUf(x:Gt)(h1:x.Ids.l.length<=100)(h2:x.bk.l.length<=100)(h3:x.Path.l.length<=100)(h4:x.Lst.l.length<=100):
 NG x=(((x.Ids.l.length:Int)==0)&&(((x.bk.l.length:Int)==0)&&(((x.Path.l.length:Int)==0)&&((x.Lst.l.length:Int)==0)))):=by
 unfold NG;have w1:W ((x.Ids.l.length:Int)+(x.bk.l.length:Int))=(x.Ids.l.length:Int)+(x.bk.l.length:Int):=YM (by omega)<|by omega
 rw[w1];have w2:W ((x.Ids.l.length:Int)+(x.bk.l.length:Int)+(x.Path.l.length:Int))=(x.Ids.l.length:Int)+(x.bk.l.length:Int)+(x.Path.l.length:Int):=YM (by omega)<|by omega
 rw[w2];have w3:W ((x.Ids.l.length:Int)+(x.bk.l.length:Int)+(x.Path.l.length:Int)+(x.Lst.l.length:Int))=(x.Ids.l.length:Int)+(x.bk.l.length:Int)+(x.Path.l.length:Int)+(x.Lst.l.length:Int):=YM (by omega)<|by omega
 rw[w3,ZXq,ZWT,ZWT,ZWT,beq_iff_eq,beq_iff_eq,beq_iff_eq,beq_iff_eq,beq_iff_eq];omega
def ZUg(e:Gt)(hs:EvS e):(!Fb (Zq e)&&NG (Zq e))=ZP1 (ZO2 e) e:=by
 have hz:∀n:Nat,n=0->((n:Int)==0)=true:=λn h=>by rw[h];rfl
 have k1:kIn e [1,13,14]=(kIn e [1]||kIn e [13,14]):=by unfold kIn;simp[Bool.or_assoc]
 have k15:(e.bq==15)=kIn e [15]:=by unfold kIn;simp
 have k10:(e.bq==10)=kIn e [10]:=by unfold kIn;simp
 have k3:(e.bq==3)=kIn e [3]:=by unfold kIn;simp
 have hA:((ZO2 e).A==e.A)=((Zq e).A==0):=by
  unfold ZO2 Zq;dsimp only;rw[k1];cases kIn e [1]<;>cases kIn e [13,14]<;>simp[ZOp 0 e.A]
 have hB:((ZO2 e).B==e.B)=((Zq e).B==0):=by
  unfold ZO2 Zq;dsimp only;cases kIn e [13,14]<;>simp[ZOp 0 e.B]
 have hO:((ZO2 e).bv==e.bv)=((Zq e).bv==0):=by
  unfold ZO2 Zq;dsimp only;rw[k15];cases kIn e [15]<;>simp[ZOp 0 e.bv]
 have hI:Z3 (ZO2 e).Id e.Id=Z3 (Zq e).Id emp:=by
  unfold ZO2 Zq;dsimp only;cases kIn e [13,14]<;>simp[ZOP,ZOZ emp e.Id]
 have hT:Z3 (ZO2 e).br e.br=Z3 (Zq e).br emp:=by
  unfold ZO2 Zq;dsimp only;cases kIn e [4,6,7]<;>simp[ZOP,ZOZ emp e.br]
 have hX:Z3 (ZO2 e).Text e.Text=Z3 (Zq e).Text emp:=by
  unfold ZO2 Zq;dsimp only;cases kIn e [6,7,15]<;>simp[ZOP,ZOZ emp e.Text]
 have hN:QL (ZO2 e).An e.An=QL (Zq e).An ⟨0,emp,0,0⟩:=by
  unfold ZO2 Zq;dsimp only;cases kIn e [6,10]<;>simp[ZRD,ZRE ⟨0,emp,0,0⟩ e.An]
 have hP:QK (ZO2 e).bg e.bg=QK (Zq e).bg ⟨0,0⟩:=by
  unfold ZO2 Zq;dsimp only;cases kIn e [6,10]<;>simp[ZQh,ZUd ⟨0,0⟩ e.bg]
 have l1:(((ZO2 e).Ids.l.length:Int)==(e.Ids.l.length:Int))=(((Zq e).Ids.l.length:Int)==0):=by
  unfold ZO2 Zq;dsimp only;rw[k10];cases kIn e [10]<;>simp[ZOp 0 (e.Ids.l.length:Int)]
 have l2:(((ZO2 e).Lst.l.length:Int)==(e.Lst.l.length:Int))=(((Zq e).Lst.l.length:Int)==0):=by
  unfold ZO2 Zq;dsimp only;cases kIn e [8,9]<;>simp[ZOp 0 (e.Lst.l.length:Int)]
 have l3:Zu (ZO7 Z3 e.Ids.l) 0 (ZO2 e).Ids.l=true:=by
  unfold ZO2;dsimp only;cases kIn e [10]with
  |true=>exact ZPG ZOP _ _ 0 rfl
  |false=>rfl
 have l4:Zu (ZO7 ZOk e.Lst.l) 0 (ZO2 e).Lst.l=true:=by
  unfold ZO2;dsimp only;cases kIn e [8,9]with
  |true=>exact ZPG ZUc _ _ 0 rfl
  |false=>rfl
 have l5:ZOj Xg (ZO2 e).bk.l e.bk.l=(((Zq e).bk.l.length:Int)==0):=by
  unfold ZO2 Zq;dsimp only;rw[k3];cases kIn e [3]with
  |true=>exact ZRB ZUb _
  |false=>exact ZRC _ _
 have l6:ZOj QK (ZO2 e).Path.l e.Path.l=(((Zq e).Path.l.length:Int)==0):=by
  unfold ZO2 Zq;dsimp only;cases kIn e [1,2,5]with
  |true=>exact ZRB ZQh _
  |false=>exact ZRC _ _
 have s1:(Zq e).Ids.l.length<=100:=by
  unfold Zq;dsimp only;cases e.bq==10<;>simp[hs.ids]
 have s2:(Zq e).bk.l.length<=100:=by
  unfold Zq;dsimp only;cases e.bq==3<;>simp[hs.names]
 have s3:(Zq e).Path.l.length<=100:=by
  unfold Zq;dsimp only;cases kIn e [1,2,5]<;>simp[hs.path]
 have s4:(Zq e).Lst.l.length<=100:=by
  unfold Zq;dsimp only;cases kIn e [8,9]<;>simp[hs.lst]
 have hk:((ZO2 e).bq==e.bq)=true:=by unfold ZO2;simp
 have hd:((ZO2 e).Day==e.Day)=true:=by unfold ZO2;simp
 rw[ZUf _ s1 s2 s3 s4];unfold ZP1 ZQg Fb;rw[ZUe,hA,hB,hO,hI,hT,hX,hN,hP,l1,l2,l3,l4,l5,l6,hk,hd];simp only[ZOe];generalize Zq e=x;rw[ZXq];simp only[ZWT,ZXn,ZZ4,ZYb];constructor
 .rintro⟨⟨⟨⟨⟨⟨a,b⟩,c⟩,d1,d2,d3⟩,f⟩,g⟩,i1,i2,i3,i4⟩;exact⟨⟨trivial,trivial,a,b,c,d1,d2,d3,f,g⟩,⟨i1,i4⟩,trivial,trivial,i2,i3⟩
 .rintro⟨⟨_,_,a,b,c,d1,d2,d3,f,g⟩,⟨i1,i4⟩,_,_,i2,i3⟩;exact⟨⟨⟨⟨⟨⟨a,b⟩,c⟩,d1,d2,d3⟩,f⟩,g⟩,i1,i2,i3,i4⟩
def okU(e:Gt):Bool:=ZD e.Day 0 100000&&ZP1 (ZO2 e) e
def ZRF(e:Gt)(hs:EvS e):Q9 e=(ZD e.bq 1 15&&(okU e&&Q8 e)):=by
 unfold Q9 okU;rw[<-ZUg e hs];cases ZD e.bq 1 15<;>cases ZD e.Day 0 100000<;>simp[ZY6]
structure EvR(e:Gt):Prop extends EvS e where
 nms:∀x∈e.bk.l,x.Lang.size<=1000000/\x.Text.size<=1000000
def ZUh(e:Gt)(hs:EvS e):(ZO2 e).Ids.l.length<=1000000/\(ZO2 e).Lst.l.length<=1000000/\(ZO2 e).bk.l.length<=1000000/\(ZO2 e).Path.l.length<=1000000:=by
 have h1:=hs.ids;have h2:=hs.lst;have h3:=hs.names;have h4:=hs.path;unfold ZO2;dsimp only;cases kIn e [10]<;>cases kIn e [8,9]<;>cases kIn e [3]<;>cases kIn e [1,2,5]<;>simp only[cond_true,cond_false,ZXt]<;>omega
def ZOc(e:Gt)(hs:EvS e):pfn rE 132 [evA<|ZO2 e,evA e]=some (.bool<|ZP1 (ZO2 e) e):=by
 obtain⟨h1,h2,h3,h4⟩:=ZUh e hs;exact ZTU (ZO2 e) e h1 h2 h3 h4
def ZRG(e:Gt)(hs:EvS e)(h:okU e=false):pfn rE 52 [evA e]=some (.bool false):=by
 have hu:=ZOb e;have hS:=ZOc e hs;unfold okU ZD at h;generalize ZO2 e=u at h hu hS;rw[Z5 (f:=52) rfl rfl];cases d1:decide (e.Day<0)with
 |true=>simp only[go_sem,c52,d1]
 |false=>
 have p1:decide (e.Day>=0)=true:=by have:=of_decide_eq_false d1;exact decide_eq_true<|by omega
 cases d2:decide (e.Day>100000)with
 |true=>simp only[go_sem,c52,d1,d2]
 |false=>
 have p2:decide (e.Day<=100000)=true:=by have:=of_decide_eq_false d2;exact decide_eq_true<|by omega
 rw[p1,p2,ZWR,ZWR]at h;simp only[go_sem,c52,d1,d2,hu,hS,h,ZWU]
def ZOf(e:Gt)(h:okU e=true):decide (e.Day<0)=false/\decide (e.Day>100000)=false/\ZP1 (ZO2 e) e=true:=by
 unfold okU ZD at h;simp only[ZWT,decide_eq_true_eq]at h;exact⟨decide_eq_false (by omega),decide_eq_false (by omega),h.2⟩
def ZPI(n:Int):pfn rE 143 [I n]=some (.bool<|ZD n 0 63):=by
 rw[Z5 (f:=143) rfl rfl];unfold ZD;cases c:decide (n>=0)<;>simp only[go_sem,c143,c,ZWR,ZWV]
def ZRH(e:Gt)(hs:EvR e)(hu0:okU e=true)(hk:e.bq=1):pfn rE 52 [evA e]=some (.bool<|Q8 e):=by
 have hu:=ZOb e;have hS:=ZOc e hs.toEvS;obtain⟨d1,d2,d3⟩:=ZOf e hu0;rw[d3]at hS;generalize ZO2 e=u at hu hS;have hn:=ZO9 e.Id (by have:=hs.id;omega)
 have q1:(e.bq==1)=true:=by rw[hk];rfl
 rw[Z5 (f:=52) rfl rfl];unfold Q8;have hv:=ZRi e.Path.l e.Path.ex (by have:=hs.path;omega)
 unfold ZD;cases c1:ZZ e.Id with
 |false=>simp only[go_sem,c52,d1,d2,hu,hS,hn,ZWS,q1,c1,cond_true,cond_false,ZWR,ZWV,ZWW,ZWX]
 |true=>
 cases c2:decide (e.A>=1)with
 |false=>simp only[go_sem,c52,d1,d2,hu,hS,hn,ZWS,q1,c1,c2,cond_true,cond_false,ZWR,ZWV,ZWW,ZWX]
 |true=>
 cases c3:decide (e.A<=3)with
 |false=>simp only[go_sem,c52,d1,d2,hu,hS,hn,ZWS,q1,c1,c2,c3,cond_true,cond_false,ZWR,ZWV,ZWW,ZWX]
 |true=>simp only[go_sem,c52,d1,d2,hu,hS,hn,ZWS,q1,c1,c2,c3,hv,cond_true,cond_false,ZWR,ZWV,ZWW,ZWX]
def ZRI(e:Gt)(hs:EvR e)(hu0:okU e=true)(hk:e.bq=2):pfn rE 52 [evA e]=some (.bool<|Q8 e):=by
 have hu:=ZOb e;have hS:=ZOc e hs.toEvS;obtain⟨d1,d2,d3⟩:=ZOf e hu0;rw[d3]at hS;generalize ZO2 e=u at hu hS;have hn:=ZO9 e.Id (by have:=hs.id;omega)
 have q1:(e.bq==1)=false:=by rw[hk];rfl
 have q2:(e.bq==2)=true:=by rw[hk];rfl
 rw[Z5 (f:=52) rfl rfl];unfold Q8;have hv:=ZTh e.Path.l e.Path.ex (by have:=hs.path;omega)
 cases c1:ZZ e.Id<;>simp only[go_sem,c52,d1,d2,hu,hS,hn,ZWS,q1,q2,c1,hv,cond_true,cond_false,ZWR,ZWV,ZWW,ZWX]
def ZRJ(e:Gt)(hs:EvR e)(hu0:okU e=true)(hk:e.bq=3):pfn rE 52 [evA e]=some (.bool<|Q8 e):=by
 have hu:=ZOb e;have hS:=ZOc e hs.toEvS;obtain⟨d1,d2,d3⟩:=ZOf e hu0;rw[d3]at hS;generalize ZO2 e=u at hu hS;have hn:=ZO9 e.Id (by have:=hs.id;omega)
 have q1:(e.bq==1)=false:=by rw[hk];rfl
 have q2:(e.bq==2)=false:=by rw[hk];rfl
 have q3:(e.bq==3)=true:=by rw[hk];rfl
 rw[Z5 (f:=52) rfl rfl];unfold Q8;have hv:=ZTP e.bk.ex e.bk.l (by have:=hs.names;omega) hs.nms
 cases c1:ZZ e.Id<;>simp only[go_sem,c52,d1,d2,hu,hS,hn,ZWS,q1,q2,q3,c1,hv,cond_true,cond_false,ZWR,ZWV,ZWW,ZWX]
def ZUi(e:Gt)(hs:EvR e)(hu0:okU e=true)(hk:e.bq=4):pfn rE 52 [evA e]=some (.bool<|Q8 e):=by
 have hu:=ZOb e;have hS:=ZOc e hs.toEvS;obtain⟨d1,d2,d3⟩:=ZOf e hu0;rw[d3]at hS;generalize ZO2 e=u at hu hS;have hn:=ZO9 e.Id (by have:=hs.id;omega)
 have q1:(e.bq==1)=false:=by rw[hk];rfl
 have q2:(e.bq==2)=false:=by rw[hk];rfl
 have q3:(e.bq==3)=false:=by rw[hk];rfl
 have q4:(e.bq==4)=true:=by rw[hk];rfl
 rw[Z5 (f:=52) rfl rfl];unfold Q8;have hv:=ZP9 false false [e.Id,e.br] (by simp) (by
  have:=hs.id;have:=hs.other;intro x hx;simp only[ZXv,ZYf,or_false]at hx;rcases hx with rfl|rfl<;>omega)
 have hv':pfn rE 138 [.isl false false 1 [.str e.Id,.str e.br]]=_:=hv;simp only[go_sem,c52,d1,d2,hu,hS,hn,ZWS,q1,q2,q3,q4,hv',cond_true,cond_false,ZWR,ZWV,ZWW,ZWX]
def ZRK(e:Gt)(hs:EvR e)(hu0:okU e=true)(hk:e.bq=5):pfn rE 52 [evA e]=some (.bool<|Q8 e):=by
 have hu:=ZOb e;have hS:=ZOc e hs.toEvS;obtain⟨d1,d2,d3⟩:=ZOf e hu0;rw[d3]at hS;generalize ZO2 e=u at hu hS;have hn:=ZO9 e.Id (by have:=hs.id;omega)
 have q1:(e.bq==1)=false:=by rw[hk];rfl
 have q2:(e.bq==2)=false:=by rw[hk];rfl
 have q3:(e.bq==3)=false:=by rw[hk];rfl
 have q4:(e.bq==4)=false:=by rw[hk];rfl
 have q5:(e.bq==5)=true:=by rw[hk];rfl
 rw[Z5 (f:=52) rfl rfl];unfold Q8;have hv:=ZRi e.Path.l e.Path.ex (by have:=hs.path;omega)
 cases c1:ZZ e.Id<;>simp only[go_sem,c52,d1,d2,hu,hS,hn,ZWS,q1,q2,q3,q4,q5,c1,hv,cond_true,cond_false,ZWR,ZWV,ZWW,ZWX]
def ZRL(e:Gt)(hs:EvR e)(hu0:okU e=true)(hk:e.bq=6):pfn rE 52 [evA e]=some (.bool<|Q8 e):=by
 have hu:=ZOb e;have hS:=ZOc e hs.toEvS;obtain⟨d1,d2,d3⟩:=ZOf e hu0;rw[d3]at hS;generalize ZO2 e=u at hu hS;have hn:=ZO9 e.Id (by have:=hs.id;omega)
 have q1:(e.bq==1)=false:=by rw[hk];rfl
 have q2:(e.bq==2)=false:=by rw[hk];rfl
 have q3:(e.bq==3)=false:=by rw[hk];rfl
 have q4:(e.bq==4)=false:=by rw[hk];rfl
 have q5:(e.bq==5)=false:=by rw[hk];rfl
 have q6:(e.bq==6)=true:=by rw[hk];rfl
 rw[Z5 (f:=52) rfl rfl];unfold Q8;have hv:=ZP9 false false [e.Id,e.br,e.Text] (by simp) (by
  have:=hs.id;have:=hs.other;have:=hs.text;intro x hx;simp only[ZXv,ZYf,or_false]at hx;rcases hx with rfl|rfl|rfl<;>omega)
 have hv':pfn rE 138 [.isl false false 1 [.str e.Id,.str e.br,.str e.Text]]=_:=hv;have hm:=ZPE e.An;have ho:=ZO6 e.bg;cases c1:Qv [e.Id,e.br,e.Text]with
 |false=>simp only[go_sem,c52,d1,d2,hu,hS,hn,ZWS,q1,q2,q3,q4,q5,q6,hv',c1,cond_true,cond_false,ZWR,ZWV,ZWW,ZWX]
 |true=>
 cases c2:YO e.An<;>simp only[go_sem,c52,d1,d2,hu,hS,hn,ZWS,q1,q2,q3,q4,q5,q6,hv',c1,hm,c2,ho,cond_true,cond_false,ZWR,ZWV,ZWW,ZWX]
def ZRM(e:Gt)(hs:EvR e)(hu0:okU e=true)(hk:e.bq=7):pfn rE 52 [evA e]=some (.bool<|Q8 e):=by
 have hu:=ZOb e;have hS:=ZOc e hs.toEvS;obtain⟨d1,d2,d3⟩:=ZOf e hu0;rw[d3]at hS;generalize ZO2 e=u at hu hS;have hn:=ZO9 e.Id (by have:=hs.id;omega)
 have q1:(e.bq==1)=false:=by rw[hk];rfl
 have q2:(e.bq==2)=false:=by rw[hk];rfl
 have q3:(e.bq==3)=false:=by rw[hk];rfl
 have q4:(e.bq==4)=false:=by rw[hk];rfl
 have q5:(e.bq==5)=false:=by rw[hk];rfl
 have q6:(e.bq==6)=false:=by rw[hk];rfl
 have q7:(e.bq==7)=true:=by rw[hk];rfl
 rw[Z5 (f:=52) rfl rfl];unfold Q8;have hv:=ZP9 false false [e.Id,e.br] (by simp) (by
  have:=hs.id;have:=hs.other;intro x hx;simp only[ZXv,ZYf,or_false]at hx;rcases hx with rfl|rfl<;>omega)
 have hv':pfn rE 138 [.isl false false 1 [.str e.Id,.str e.br]]=_:=hv;have hd:=ZTK e.Text 24 (by have:=hs.text;omega)
 cases c1:Qv [e.Id,e.br]<;>simp only[go_sem,c52,d1,d2,hu,hS,hn,ZWS,q1,q2,q3,q4,q5,q6,q7,hv',c1,hd,cond_true,cond_false,ZWR,ZWV,ZWW,ZWX]
def ZUj(e:Gt)(hs:EvR e)(hu0:okU e=true)(hk:e.bq=11):pfn rE 52 [evA e]=some (.bool<|Q8 e):=by
 have hu:=ZOb e;have hS:=ZOc e hs.toEvS;obtain⟨d1,d2,d3⟩:=ZOf e hu0;rw[d3]at hS;generalize ZO2 e=u at hu hS;have hn:=ZO9 e.Id (by have:=hs.id;omega)
 have q1:(e.bq==1)=false:=by rw[hk];rfl
 have q2:(e.bq==2)=false:=by rw[hk];rfl
 have q3:(e.bq==3)=false:=by rw[hk];rfl
 have q4:(e.bq==4)=false:=by rw[hk];rfl
 have q5:(e.bq==5)=false:=by rw[hk];rfl
 have q6:(e.bq==6)=false:=by rw[hk];rfl
 have q7:(e.bq==7)=false:=by rw[hk];rfl
 have q8:(e.bq==8)=false:=by rw[hk];rfl
 have q9:(e.bq==9)=false:=by rw[hk];rfl
 have q10:(e.bq==10)=false:=by rw[hk];rfl
 have q11:(e.bq==11)=true:=by rw[hk];rfl
 rw[Z5 (f:=52) rfl rfl];unfold Q8;simp only[go_sem,c52,d1,d2,hu,hS,hn,ZWS,q1,q2,q3,q4,q5,q6,q7,q8,q9,q10,q11,cond_true,cond_false,ZWR,ZWV,ZWW,ZWX]
def ZUk(e:Gt)(hs:EvR e)(hu0:okU e=true)(hk:e.bq=12):pfn rE 52 [evA e]=some (.bool<|Q8 e):=by
 have hu:=ZOb e;have hS:=ZOc e hs.toEvS;obtain⟨d1,d2,d3⟩:=ZOf e hu0;rw[d3]at hS;generalize ZO2 e=u at hu hS;have hn:=ZO9 e.Id (by have:=hs.id;omega)
 have q1:(e.bq==1)=false:=by rw[hk];rfl
 have q2:(e.bq==2)=false:=by rw[hk];rfl
 have q3:(e.bq==3)=false:=by rw[hk];rfl
 have q4:(e.bq==4)=false:=by rw[hk];rfl
 have q5:(e.bq==5)=false:=by rw[hk];rfl
 have q6:(e.bq==6)=false:=by rw[hk];rfl
 have q7:(e.bq==7)=false:=by rw[hk];rfl
 have q8:(e.bq==8)=false:=by rw[hk];rfl
 have q9:(e.bq==9)=false:=by rw[hk];rfl
 have q10:(e.bq==10)=false:=by rw[hk];rfl
 have q11:(e.bq==11)=false:=by rw[hk];rfl
 have q12:(e.bq==12)=true:=by rw[hk];rfl
 rw[Z5 (f:=52) rfl rfl];unfold Q8;simp only[go_sem,c52,d1,d2,hu,hS,hn,ZWS,q1,q2,q3,q4,q5,q6,q7,q8,q9,q10,q11,q12,cond_true,cond_false,ZWR,ZWV,ZWW,ZWX]
def ZUl(e:Gt)(hs:EvR e)(hu0:okU e=true)(hk:e.bq=13):pfn rE 52 [evA e]=some (.bool<|Q8 e):=by
 have hu:=ZOb e;have hS:=ZOc e hs.toEvS;obtain⟨d1,d2,d3⟩:=ZOf e hu0;rw[d3]at hS;generalize ZO2 e=u at hu hS;have hn:=ZO9 e.Id (by have:=hs.id;omega)
 have q1:(e.bq==1)=false:=by rw[hk];rfl
 have q2:(e.bq==2)=false:=by rw[hk];rfl
 have q3:(e.bq==3)=false:=by rw[hk];rfl
 have q4:(e.bq==4)=false:=by rw[hk];rfl
 have q5:(e.bq==5)=false:=by rw[hk];rfl
 have q6:(e.bq==6)=false:=by rw[hk];rfl
 have q7:(e.bq==7)=false:=by rw[hk];rfl
 have q8:(e.bq==8)=false:=by rw[hk];rfl
 have q9:(e.bq==9)=false:=by rw[hk];rfl
 have q10:(e.bq==10)=false:=by rw[hk];rfl
 have q11:(e.bq==11)=false:=by rw[hk];rfl
 have q12:(e.bq==12)=false:=by rw[hk];rfl
 have q13:(e.bq==13)=true:=by rw[hk];rfl
 rw[Z5 (f:=52) rfl rfl];unfold Q8;have ha:=ZPI e.A;have hb:=ZPI e.B;unfold K5;cases c1:ZD e.A 0 63 with
 |false=>simp only[go_sem,c52,d1,d2,hu,hS,hn,ZWS,q1,q2,q3,q4,q5,q6,q7,q8,q9,q10,q11,q12,q13,ha,c1,cond_true,cond_false,ZWR,ZWV,ZWW,ZWX]
 |true=>cases c2:ZD e.B 0 63<;>simp only[go_sem,c52,d1,d2,hu,hS,hn,ZWS,q1,q2,q3,q4,q5,q6,q7,q8,q9,q10,q11,q12,q13,ha,hb,c1,c2,cond_true,cond_false,ZWR,ZWV,ZWW,ZWX]
def ZUm(e:Gt)(hs:EvR e)(hu0:okU e=true)(hk:e.bq=14):pfn rE 52 [evA e]=some (.bool<|Q8 e):=by
 have hu:=ZOb e;have hS:=ZOc e hs.toEvS;obtain⟨d1,d2,d3⟩:=ZOf e hu0;rw[d3]at hS;generalize ZO2 e=u at hu hS;have hn:=ZO9 e.Id (by have:=hs.id;omega)
 have q1:(e.bq==1)=false:=by rw[hk];rfl
 have q2:(e.bq==2)=false:=by rw[hk];rfl
 have q3:(e.bq==3)=false:=by rw[hk];rfl
 have q4:(e.bq==4)=false:=by rw[hk];rfl
 have q5:(e.bq==5)=false:=by rw[hk];rfl
 have q6:(e.bq==6)=false:=by rw[hk];rfl
 have q7:(e.bq==7)=false:=by rw[hk];rfl
 have q8:(e.bq==8)=false:=by rw[hk];rfl
 have q9:(e.bq==9)=false:=by rw[hk];rfl
 have q10:(e.bq==10)=false:=by rw[hk];rfl
 have q11:(e.bq==11)=false:=by rw[hk];rfl
 have q12:(e.bq==12)=false:=by rw[hk];rfl
 have q13:(e.bq==13)=false:=by rw[hk];rfl
 have q14:(e.bq==14)=true:=by rw[hk];rfl
 rw[Z5 (f:=52) rfl rfl];unfold Q8;have ha:=ZPI e.A;have hb:=ZPI e.B;unfold K5;cases c1:ZD e.A 0 63 with
 |false=>simp only[go_sem,c52,d1,d2,hu,hS,hn,ZWS,q1,q2,q3,q4,q5,q6,q7,q8,q9,q10,q11,q12,q13,q14,ha,c1,cond_true,cond_false,ZWR,ZWV,ZWW,ZWX]
 |true=>cases c2:ZD e.B 0 63<;>simp only[go_sem,c52,d1,d2,hu,hS,hn,ZWS,q1,q2,q3,q4,q5,q6,q7,q8,q9,q10,q11,q12,q13,q14,ha,hb,c1,c2,cond_true,cond_false,ZWR,ZWV,ZWW,ZWX]
def ZRN(e:Gt)(hs:EvR e)(hu0:okU e=true)(hk:e.bq=15):pfn rE 52 [evA e]=some (.bool<|Q8 e):=by
 have hu:=ZOb e;have hS:=ZOc e hs.toEvS;obtain⟨d1,d2,d3⟩:=ZOf e hu0;rw[d3]at hS;generalize ZO2 e=u at hu hS;have hn:=ZO9 e.Id (by have:=hs.id;omega)
 have q1:(e.bq==1)=false:=by rw[hk];rfl
 have q2:(e.bq==2)=false:=by rw[hk];rfl
 have q3:(e.bq==3)=false:=by rw[hk];rfl
 have q4:(e.bq==4)=false:=by rw[hk];rfl
 have q5:(e.bq==5)=false:=by rw[hk];rfl
 have q6:(e.bq==6)=false:=by rw[hk];rfl
 have q7:(e.bq==7)=false:=by rw[hk];rfl
 have q8:(e.bq==8)=false:=by rw[hk];rfl
 have q9:(e.bq==9)=false:=by rw[hk];rfl
 have q10:(e.bq==10)=false:=by rw[hk];rfl
 have q11:(e.bq==11)=false:=by rw[hk];rfl
 have q12:(e.bq==12)=false:=by rw[hk];rfl
 have q13:(e.bq==13)=false:=by rw[hk];rfl
 have q14:(e.bq==14)=false:=by rw[hk];rfl
 have q15:(e.bq==15)=true:=by rw[hk];rfl
 rw[Z5 (f:=52) rfl rfl];unfold Q8;have hv:=ZTE e.Text (by have:=hs.text;omega)
 unfold ZD;cases c1:ZZ e.Id with
 |false=>simp only[go_sem,c52,d1,d2,hu,hS,hn,ZWS,q1,q2,q3,q4,q5,q6,q7,q8,q9,q10,q11,q12,q13,q14,q15,c1,cond_true,cond_false,ZWR,ZWV,ZWW,ZWX]
 |true=>
 cases c2:decide (e.bv>=0)with
 |false=>simp only[go_sem,c52,d1,d2,hu,hS,hn,ZWS,q1,q2,q3,q4,q5,q6,q7,q8,q9,q10,q11,q12,q13,q14,q15,c1,c2,cond_true,cond_false,ZWR,ZWV,ZWW,ZWX]
 |true=>
 cases c3:decide (e.bv<=63)with
 |false=>simp only[go_sem,c52,d1,d2,hu,hS,hn,ZWS,q1,q2,q3,q4,q5,q6,q7,q8,q9,q10,q11,q12,q13,q14,q15,c1,c2,c3,cond_true,cond_false,ZWR,ZWV,ZWW,ZWX]
 |true=>simp only[go_sem,c52,d1,d2,hu,hS,hn,ZWS,q1,q2,q3,q4,q5,q6,q7,q8,q9,q10,q11,q12,q13,q14,q15,c1,c2,c3,hv,cond_true,cond_false,ZWR,ZWV,ZWW,ZWX]
def ZOa(n:Int):pfn rE 51 [I n]=some (.bool<|ZD n 0 63):=by
 rw[Z5 (f:=51) rfl rfl];unfold ZD;cases c:decide (n>=0)<;>simp only[go_sem,c51,c,ZWR,ZWV]
def ZOh(n a:Int):pfn rE 63 [I n,I a]=some (.bool<|ZD n a 100000):=by
 rw[Z5 (f:=63) rfl rfl];unfold ZD;cases c:decide (n>=a)<;>simp only[go_sem,c63,c,ZWR,ZWV]
abbrev stW(w:Bool)(s:Sta):AV:=.agg [.isl w false 6<|s.Fa.map Gk.enc,.isl w false 5<|s.Gm.map By.enc,.isl w false 4<|s.Bt.map Ev.enc,.isl w false 16<|s.Bc.map Ga.enc,.isl w false 6<|s.Nk.map be.enc,.isl w false 2<|s.Gc.map bf.enc,.isl w false 2<|s.ba.map bf.enc]
abbrev stJ(w:Bool)(s:Sta):AV:=.iptr w [.isl w false 6<|s.Fa.map Gk.enc,.isl w false 5<|s.Gm.map By.enc,.isl w false 4<|s.Bt.map Ev.enc,.isl w false 16<|s.Bc.map Ga.enc,.isl w false 6<|s.Nk.map be.enc,.isl w false 2<|s.Gc.map bf.enc,.isl w false 2<|s.ba.map bf.enc]
def ZUn(w:Bool)(h:Hp)(s:Sta):Va h 7 (stW w s)=some (stJ w s,h):=by
 cases w
 .exact E4 _ _ _ rfl rfl
 .exact E5 _ _ _ rfl rfl rfl
attribute [go_sem 1100] ZUn
def ZPJ(w:Bool)(s:Sta)(hs:StS s)(id:Str):pfn rE 145 [stW w s,.str id]=some (I<|Qo s id):=by
 have L:=ZDU (E:=rE) (live:=[1,2,5]) (b:=c145L0b) (h:=[]) s.Fa (λx=>Z3 x.Id id) (λi=>[(1,.str id),(2,stJ w s),(5,I i)]) 0 (λi fr=>get fr 4=I i) (λk=>rfl)
  (λi x hx hP=>by
   have hg:=Z6 (f:=Gk.enc) hx;have hlt:=Zh<|Z7 hx;have hw:=Zx (n:=i) (by have:=Z7 hx;have:=hs.regions;omega)
   have hP':Z3 x.Id id=false:=hP;refine⟨_,by simp only[go_sem,c145L0b,hg,hlt,hw,Gk.enc,hP',ZWQ];rfl,?_⟩
   simp only[go_sem])
  (λi x hx hP=>by
   have hg:=Z6 (f:=Gk.enc) hx;have hlt:=Zh<|Z7 hx;have hP':Z3 x.Id id=true:=hP;refine⟨_,by simp only[go_sem,c145L0b,hg,hlt,Gk.enc,hP',ZWQ];rfl,?_⟩
   simp only[go_sem])
  (⟨_,by simp only[go_sem,c145L0b,ZG,ZWQ];rfl⟩)
 obtain⟨fr',h1,h2⟩:=L;have h1':Zg rE [1,2,5] c145L0b [(1,.str id),(2,stJ w s),(5,.int .i64 0)] []=_:=h1;rw[Z5 (f:=145) rfl rfl];unfold Qo;by_cases hc:Zp (λx:Gk=>Z3 x.Id id) s.Fa 0=-1
 .rw[if_pos hc]at h1';rw[hc];simp only[go_sem,c145,c145L0,h1']
 .rw[if_neg hc]at h1';obtain⟨i,e,g4⟩:=h2 hc;rw[e];simp only[go_sem,c145,c145L0,h1',g4]
def ZOQ(w:Bool)(s:Sta)(hs:StS s)(id:Str):pfn rE 147 [stW w s,.str id]=some (I<|ZL s id):=by
 have L:=ZDU (E:=rE) (live:=[1,2,5]) (b:=c147L0b) (h:=[]) s.Gm (λx=>Z3 x.Id id) (λi=>[(1,.str id),(2,stJ w s),(5,I i)]) 0 (λi fr=>get fr 4=I i) (λk=>rfl)
  (λi x hx hP=>by
   have hg:=Z6 (f:=By.enc) hx;have hlt:=Zh<|Z7 hx;have hw:=Zx (n:=i) (by have:=Z7 hx;have:=hs.streets;omega)
   have hP':Z3 x.Id id=false:=hP;refine⟨_,by simp only[go_sem,c147L0b,hg,hlt,hw,By.enc,hP',ZWQ];rfl,?_⟩
   simp only[go_sem])
  (λi x hx hP=>by
   have hg:=Z6 (f:=By.enc) hx;have hlt:=Zh<|Z7 hx;have hP':Z3 x.Id id=true:=hP;refine⟨_,by simp only[go_sem,c147L0b,hg,hlt,By.enc,hP',ZWQ];rfl,?_⟩
   simp only[go_sem])
  (⟨_,by simp only[go_sem,c147L0b,ZG,ZWQ];rfl⟩)
 obtain⟨fr',h1,h2⟩:=L;have h1':Zg rE [1,2,5] c147L0b [(1,.str id),(2,stJ w s),(5,.int .i64 0)] []=_:=h1;rw[Z5 (f:=147) rfl rfl];unfold ZL;by_cases hc:Zp (λx:By=>Z3 x.Id id) s.Gm 0=-1
 .rw[if_pos hc]at h1';rw[hc];simp only[go_sem,c147,c147L0,h1']
 .rw[if_neg hc]at h1';obtain⟨i,e,g4⟩:=h2 hc;rw[e];simp only[go_sem,c147,c147L0,h1',g4]
def ZPK(w:Bool)(s:Sta)(hs:StS s)(id:Str):pfn rE 148 [stW w s,.str id]=some (I<|Y1 s id):=by
 have L:=ZDU (E:=rE) (live:=[1,2,5]) (b:=c148L0b) (h:=[]) s.Bt (λx=>Z3 x.Id id) (λi=>[(1,.str id),(2,stJ w s),(5,I i)]) 0 (λi fr=>get fr 4=I i) (λk=>rfl)
  (λi x hx hP=>by
   have hg:=Z6 (f:=Ev.enc) hx;have hlt:=Zh<|Z7 hx;have hw:=Zx (n:=i) (by have:=Z7 hx;have:=hs.buildings;omega)
   have hP':Z3 x.Id id=false:=hP;refine⟨_,by simp only[go_sem,c148L0b,hg,hlt,hw,Ev.enc,hP',ZWQ];rfl,?_⟩
   simp only[go_sem])
  (λi x hx hP=>by
   have hg:=Z6 (f:=Ev.enc) hx;have hlt:=Zh<|Z7 hx;have hP':Z3 x.Id id=true:=hP;refine⟨_,by simp only[go_sem,c148L0b,hg,hlt,Ev.enc,hP',ZWQ];rfl,?_⟩
   simp only[go_sem])
  (⟨_,by simp only[go_sem,c148L0b,ZG,ZWQ];rfl⟩)
 obtain⟨fr',h1,h2⟩:=L;have h1':Zg rE [1,2,5] c148L0b [(1,.str id),(2,stJ w s),(5,.int .i64 0)] []=_:=h1;rw[Z5 (f:=148) rfl rfl];unfold Y1;by_cases hc:Zp (λx:Ev=>Z3 x.Id id) s.Bt 0=-1
 .rw[if_pos hc]at h1';rw[hc];simp only[go_sem,c148,c148L0,h1']
 .rw[if_neg hc]at h1';obtain⟨i,e,g4⟩:=h2 hc;rw[e];simp only[go_sem,c148,c148L0,h1',g4]
def ZOg(w:Bool)(s:Sta)(hs:StS s)(id:Str):pfn rE 13 [stW w s,.str id]=some (I<|Zn s id):=by
 have L:=ZDU (E:=rE) (live:=[1,2,5]) (b:=c13L0b) (h:=[]) s.Bc (λx=>Z3 x.Id id) (λi=>[(1,.str id),(2,stJ w s),(5,I i)]) 0 (λi fr=>get fr 4=I i) (λk=>rfl)
  (λi x hx hP=>by
   have hg:=Z6 (f:=Ga.enc) hx;have hlt:=Zh<|Z7 hx;have hw:=Zx (n:=i) (by have:=Z7 hx;have:=hs.doors;omega)
   have hP':Z3 x.Id id=false:=hP;refine⟨_,by simp only[go_sem,c13L0b,hg,hlt,hw,Ga.enc,hP',ZWQ];rfl,?_⟩
   simp only[go_sem])
  (λi x hx hP=>by
   have hg:=Z6 (f:=Ga.enc) hx;have hlt:=Zh<|Z7 hx;have hP':Z3 x.Id id=true:=hP;refine⟨_,by simp only[go_sem,c13L0b,hg,hlt,Ga.enc,hP',ZWQ];rfl,?_⟩
   simp only[go_sem])
  (⟨_,by simp only[go_sem,c13L0b,ZG,ZWQ];rfl⟩)
 obtain⟨fr',h1,h2⟩:=L;have h1':Zg rE [1,2,5] c13L0b [(1,.str id),(2,stJ w s),(5,.int .i64 0)] []=_:=h1;rw[Z5 (f:=13) rfl rfl];unfold Zn;by_cases hc:Zp (λx:Ga=>Z3 x.Id id) s.Bc 0=-1
 .rw[if_pos hc]at h1';rw[hc];simp only[go_sem,c13,c13L0,h1']
 .rw[if_neg hc]at h1';obtain⟨i,e,g4⟩:=h2 hc;rw[e];simp only[go_sem,c13,c13L0,h1',g4]
def ZRO(w:Bool)(s:Sta)(hs:StS s)(id:Str):pfn rE 90 [stW w s,.str id]=some (I<|Wf s id):=by
 have L:=ZDU (E:=rE) (live:=[1,2,5]) (b:=c90L0b) (h:=[]) s.Nk (λx=>Z3 x.Id id) (λi=>[(1,.str id),(2,stJ w s),(5,I i)]) 0 (λi fr=>get fr 4=I i) (λk=>rfl)
  (λi x hx hP=>by
   have hg:=Z6 (f:=be.enc) hx;have hlt:=Zh<|Z7 hx;have hw:=Zx (n:=i) (by have:=Z7 hx;have:=hs.units;omega)
   have hP':Z3 x.Id id=false:=hP;refine⟨_,by simp only[go_sem,c90L0b,hg,hlt,hw,be.enc,hP',ZWQ];rfl,?_⟩
   simp only[go_sem])
  (λi x hx hP=>by
   have hg:=Z6 (f:=be.enc) hx;have hlt:=Zh<|Z7 hx;have hP':Z3 x.Id id=true:=hP;refine⟨_,by simp only[go_sem,c90L0b,hg,hlt,be.enc,hP',ZWQ];rfl,?_⟩
   simp only[go_sem])
  (⟨_,by simp only[go_sem,c90L0b,ZG,ZWQ];rfl⟩)
 obtain⟨fr',h1,h2⟩:=L;have h1':Zg rE [1,2,5] c90L0b [(1,.str id),(2,stJ w s),(5,.int .i64 0)] []=_:=h1;rw[Z5 (f:=90) rfl rfl];unfold Wf;by_cases hc:Zp (λx:be=>Z3 x.Id id) s.Nk 0=-1
 .rw[if_pos hc]at h1';rw[hc];simp only[go_sem,c90,c90L0,h1']
 .rw[if_neg hc]at h1';obtain⟨i,e,g4⟩:=h2 hc;rw[e];simp only[go_sem,c90,c90L0,h1',g4]
def ZQi(w:Bool)(s:Sta)(hs:StS s)(a:Int):pfn rE 155 [stW w s,I a]=some (I<|XJ s a):=by
 have n1:((1:Int)).toNat=1:=rfl;have n0:((0:Int)).toNat=0:=rfl;have L:=ZDU (E:=rE) (live:=[1,2,5]) (b:=c155L0b) (h:=[]) s.Gc (λp=>p.b==a) (λi=>[(1,I a),(2,stJ w s),(5,I i)]) 0 (λi fr=>∃p,s.Gc[i]?=some p/\get fr 4=I p.a) (λk=>rfl)
  (λi x hx hP=>by
   have hg:=Z6 (f:=bf.enc) hx;have hlt:=Zh<|Z7 hx;have hw:=Zx (n:=i) (by have:=Z7 hx;have:=hs.merged;omega)
   have hP':(x.b==a)=false:=hP;refine⟨_,by simp only[go_sem,c155L0b,hg,hlt,hw,bf.enc,XL,n1,if_true,hP',ZWQ];rfl,?_⟩
   simp only[go_sem])
  (λi x hx hP=>by
   have hg:=Z6 (f:=bf.enc) hx;have hlt:=Zh<|Z7 hx;have hP':(x.b==a)=true:=hP;refine⟨_,by simp only[go_sem,c155L0b,hg,hlt,bf.enc,WJ,XL,n0,n1,if_true,hP',ZWQ];rfl,x,hx,?_⟩
   simp only[go_sem])
  (⟨_,by simp only[go_sem,c155L0b,ZG,ZWQ];rfl⟩)
 obtain⟨fr',h1,h2⟩:=L;have h1':Zg rE [1,2,5] c155L0b [(1,I a),(2,stJ w s),(5,.int .i64 0)] []=_:=h1;rw[Z5 (f:=155) rfl rfl];unfold XJ;rcases UA (λp:bf=>p.b==a) s.Gc 0 with⟨hc,hf⟩|⟨j,x,hc,hx,hf⟩
 .rw[if_pos hc]at h1';rw[hf];simp only[go_sem,c155,c155L0,h1']
 .have hn:Zp (λp:bf=>p.b==a) s.Gc 0≠-1:=by rw[hc];omega
  rw[if_neg hn]at h1';obtain⟨i,e,p,hp,g4⟩:=h2 hn;have:i=j:=by rw[hc]at e;omega
  subst this;rw[hx]at hp;cases hp;rw[hf];simp only[go_sem,c155,c155L0,h1',g4]
def ZUo(s:Sta)(hs:StS s)(id:Str):pfn rE 147 [stA s,.str id]=some (I<|ZL s id):=ZOQ false s hs id
def ZUp(s:Sta)(hs:StS s)(id:Str):pfn rE 148 [stA s,.str id]=some (I<|Y1 s id):=ZPK false s hs id
def ZPo(s:Sta)(hs:StS s)(id:Str):pfn rE 13 [stA s,.str id]=some (I<|Zn s id):=ZOg false s hs id
def ZUq(s:Sta)(hs:StS s)(a:Int):pfn rE 155 [stA s,I a]=some (I<|XJ s a):=ZQi false s hs a
def ZOq(e:Gt)(hs:EvR e)(hk:e.bq=1\/e.bq=2\/e.bq=3\/e.bq=5\/e.bq=6\/e.bq=7\/e.bq=15):pfn rE 52 [evA e]=some (.bool<|Q9 e):=by
 have hw:ZD e.bq 1 15=true:=by unfold ZD;rw[ZWT,decide_eq_true_eq,decide_eq_true_eq];omega
 rw[ZRF e hs.toEvS,hw,ZWR];cases hu:okU e with
 |false=>exact ZRG e hs.toEvS hu
 |true=>
  rw[ZWR];rcases hk with h|h|h|h|h|h|h
  .exact ZRH e hs hu h
  .exact ZRI e hs hu h
  .exact ZRJ e hs hu h
  .exact ZRK e hs hu h
  .exact ZRL e hs hu h
  .exact ZRM e hs hu h
  .exact ZRN e hs hu h
def ZPL(l:List Nm)(ex:Bool)(hl:l.length<=100)(hs:∀x∈l,x.Lang.size<=1000000/\x.Text.size<=1000000):pfn rE 64 [.isl false ex 3<|l.map Nm.enc]=some (.bool<|Jp l ex):=by
 have h:=ZOq (Jo l ex) ⟨⟨by simp[Jo],hl,by simp[Jo],by simp[Jo],ZXs rfl,ZXs rfl,ZXs rfl⟩,hs⟩<|Or.inr<|Or.inr<|Or.inl rfl
 have h':pfn rE 52 [.agg [I 3,I 0,I 0,I 0,I 0,.str<|B [120],.str emp,.str emp,.isl false false 1 [],.isl false ex 3<|l.map Nm.enc,I 0,.str emp,I 0,I 0,I 0,I 0,.isl false false 2 [],.isl false false 7 []]]=some (.bool<|Q9<|Jo l ex):=h;rw[Z5 (f:=64) rfl rfl];unfold Jp;cases c:(l.length:Int)==0<;>simp only[go_sem,c64,c,h',ZWQ,ZWY,ZWZ]
def ZOu(e:Gt)(h:e.bk.l=[]):∀x∈e.bk.l,x.Lang.size<=1000000/\x.Text.size<=1000000:=by
 rw[h];intro x hx;cases hx
def ZOC(d:Ga):Bool:=Q9 {NM d with bq:=15}&&(Z3 d.Ev emp&&(Z3 d.By emp&&(QL d.An ⟨0,emp,0,0⟩&&QK d.bg ⟨0,0⟩)))
def ZRP(d:Ga)(hd:DoS d):pfn rE 67 [Zo d]=some (.bool<|ZOC d):=by
 have h:=ZOq {NM d with bq:=15} ⟨⟨by simp[NM],by simp[NM],by simp[NM],by simp[NM],hd.id,ZXs rfl,hd.veil⟩,ZOu _ rfl⟩<|by simp
 have h':pfn rE 52 [.agg [I 15,I 0,I 0,I 0,I d.bv,.str d.Id,.str emp,.str d.Veil,.isl false false 1 [],.isl false false 3 [],I 0,.str emp,I 0,I 0,I 0,I 0,.isl false false 2 [],.isl false false 7 []]]=some (.bool<|Q9 {NM d with bq:=15}):=h
 have hn:(d.An.N==0&&(Z3 d.An.bm emp&&(d.An.Num==0&&d.An.Den==0)))=QL d.An ⟨0,emp,0,0⟩:=rfl;have hp:(d.bg.X==0&&d.bg.Y==0)=QK d.bg ⟨0,0⟩:=rfl;rw[Z5 (f:=67) rfl rfl];unfold ZOC;cases c1:Q9 {NM d with bq:=15}with
 |false=>simp only[go_sem,c67,Zo,h',c1,ZWU,ZWV]
 |true=>
 cases c2:Z3 d.Ev emp with
 |false=>simp only[go_sem,c67,Zo,h',c1,c2,ZWS,ZWR,ZWV]
 |true=>
 cases c3:Z3 d.By emp with
 |false=>simp only[go_sem,c67,Zo,h',c1,c2,c3,ZWS,ZWR,ZWV]
 |true=>
 cases c4:QL d.An ⟨0,emp,0,0⟩<;>simp only[go_sem,c67,Zo,h',c1,c2,c3,hn,hp,c4,ZWS,ZWR,ZWV]
def ZUr(d:Ga):ZOC d=NN d:=by
 unfold ZOC NN;cases Z3 d.Ev emp<;>cases Z3 d.By emp<;>cases QL d.An ⟨0,emp,0,0⟩<;>cases QK d.bg ⟨0,0⟩<;>simp
def ZOR(s:Sta)(d:Ga):Bool:=Q9 {Hf d with bq:=6}&&!NO s d
def ZPM{α:Type}(P:α->Bool)(l:List α)(h:decide (Zp P l 0>=0)=true):∃(j:Nat)(x:α),Zp P l 0=(j:Int)/\l[j]?=some x:=by
 rcases UA P l 0 with⟨hc,_⟩|⟨j,x,hc,hx,_⟩
 .rw[hc]at h;cases h
 .exact⟨j,x,by omega,hx⟩
def ZRQ(s:Sta)(hs:StS s)(d:Ga)(hd:DoS d):pfn rE 66 [stA s,Zo d]=some (.bool<|ZOR s d):=by
 have h:=ZOq {Hf d with bq:=6} ⟨⟨by simp[Hf],by simp[Hf],by simp[Hf],by simp[Hf],hd.id,hd.building,hd.street⟩,ZOu _ rfl⟩<|by simp
 have h':pfn rE 52 [.agg [I 6,I 0,I 0,I 0,I 0,.str d.Id,.str d.Ev,.str d.By,.isl false false 1 [],.isl false false 3 [],I d.An.N,.str d.An.bm,I d.An.Num,I d.An.Den,I d.bg.X,I d.bg.Y,.isl false false 2 [],.isl false false 7 []]]=some (.bool<|Q9 {Hf d with bq:=6}):=h
 have hb:=ZUp s hs d.Ev;have ht:=ZUo s hs d.By;rw[Z5 (f:=66) rfl rfl];unfold ZOR NO;have neg:∀n:Int,decide (n<0) = !decide (n>=0):=λn=>by rw[<-decide_not,decide_eq_decide];omega
 rw[neg,neg];cases c1:Q9 {Hf d with bq:=6}with
 |false=>simp only[go_sem,c66,Zo,h',c1,ZWU,ZWV]
 |true=>
 cases c2:(d.bv != 0)with
 |true=>simp only[go_sem,c66,Zo,h',c1,c2,ZWS,ZWR,ZWY,ZXa]
 |false=>
 cases c3:decide (Y1 s d.Ev>=0)with
 |false=>simp only[go_sem,c66,Zo,h',c1,c2,hb,ht,c3,ZWS,ZWU,ZWR,ZWY,ZXa]
 |true=>
 cases c4:decide (ZL s d.By>=0)with
 |false=>simp only[go_sem,c66,Zo,h',c1,c2,hb,ht,c3,c4,ZWS,ZWU,ZWR,ZWY,ZXa]
 |true=>
 unfold exD;cases c5:(d.Ld==-1)with
 |false=>
  have c5':(d.Ld != -1)=true:=by rw[bne,c5];rfl
  simp only[go_sem,c66,Zo,h',c1,c2,hb,ht,c3,c4,c5',ZWS,ZWU,ZWR,ZWV,ZXd]
 |true=>
  have c5':(d.Ld != -1)=false:=by rw[bne,c5];rfl
  obtain⟨j,x,hj,hx⟩:=ZPM _ s.Bt c3;obtain⟨k,y,hk,hy⟩:=ZPM _ s.Gm c4;have hjb:Y1 s d.Ev=(j:Int):=hj;have hks:ZL s d.By=(k:Int):=hk;have e1:WL s (j:Int)=x.Ld:=by unfold WL;rw[ZXI,hx]
  have e2:QF s (k:Int)=y.Ld:=by unfold QF;rw[ZXI,hy]
  have g1:=Z6 (f:=Ev.enc) hx;have g2:=Z6 (f:=By.enc) hy;rw[hjb]at hb c3;rw[hks]at ht c4;rw[hjb,hks,e1,e2];have q1:(x.Ld != -1) = !(x.Ld==-1):=rfl;have q2:(y.Ld != -1) = !(y.Ld==-1):=rfl;cases c6:(x.Ld==-1)with
  |false=>simp only[go_sem,c66,Zo,h',c1,c2,hb,ht,c3,c4,c5',g1,Ev.enc,q1,q2,c6,ZWS,ZWU,ZWR,ZWV,ZWY,ZXa]
  |true=>cases c7:(y.Ld==-1)<;>simp only[go_sem,c66,Zo,h',c1,c2,hb,ht,c3,c4,c5',g1,g2,Ev.enc,By.enc,q1,q2,c6,c7,ZWS,ZWU,ZWR,ZWV,ZWY,ZXa,ZXd]
def prS(l:List Str)(k:Nat)(x:Str):Bool:=(l.take k).all (λy=>!Z3 y x)
def afS(s:Sta)(i:Int)(l:List Str)(k:Nat)(x:Str):Bool:=!decide (Zn s x<=i)&&prS l k x
def ZRR(v:AV)(hv:∀n,bel n v=true)(i:Int)(d:Ga)(hd:DoS d)(k:Nat)(x:Str)(hx:d.After.l[k]?=some x):∃fr',Zg rE [1,2,5,6,7,8] c65L0b [(1,I i),(2,v),(5,.ptr 0 0 0 1),(6,I d.After.l.length),(7,I k),(8,.int .i64 0)] [.row 16 [Zo d]] =
 some (if prS d.After.l k x=true then .exit 2 else .ret,fr',[.row 16 [Zo d]])/\
 (prS d.After.l k x=true->get fr' 1=I i/\get fr' 2=v/\get fr' 5=.ptr 0 0 0 1/\get fr' 6=I d.After.l.length/\get fr' 7=I k)/\(prS d.After.l k x=false->get fr' 4=.bool false):=by
 have hgx:=Z6 (f:=encS) hx;have hli:=Z7 hx;have hl:=hd.after;have L:=QT (E:=rE) (live:=[1,2,5,6,7,8]) (b:=c65L0b) (h:=[.row 16 [Zo d]]) (d.After.l.take k) (λ_ y=>!Z3 y x) (λj=>[(1,I i),(2,v),(5,.ptr 0 0 0 1),(6,I d.After.l.length),(7,I k),(8,I j)]) 2
  (λfr=>get fr 1=I i/\get fr 2=v/\get fr 5=.ptr 0 0 0 1/\get fr 6=I d.After.l.length/\get fr 7=I k) (λfr=>get fr 4=.bool false) (λk=>rfl)
  (λj y hy hP=>by
   obtain⟨hy',hk⟩:=HH hy;have hgy:=Z6 (f:=encS) hy';have hlt:=Zh hk;have hw:=Zx (n:=j)<|by omega
   have hP':Z3 y x=false:=by simpa using hP
   refine⟨_,by simp only[go_sem,c65L0b,Zo,hv,hgx,hgy,hlt,hw,encS,hP'];rfl,?_⟩
   simp only[go_sem])
  (λj y hy hP=>by
   obtain⟨hy',hk⟩:=HH hy;have hgy:=Z6 (f:=encS) hy';have hlt:=Zh hk;have hP':Z3 y x=true:=by simpa using hP
   refine⟨_,by simp only[go_sem,c65L0b,Zo,hv,hgx,hgy,hlt,encS,hP'];rfl,?_⟩
   simp only[go_sem])
  (by
   have e:(d.After.l.take k).length=k:=by rw[ZXL];omega
   rw[e];exact⟨_,by simp only[go_sem,c65L0b,hv,ZG];rfl,by simp only[go_sem],by simp only[go_sem],by simp only[go_sem],by simp only[go_sem],by simp only[go_sem]⟩)
 rw[QE]at L;exact L
def ZUs(s:Sta)(hs:StS s)(i:Int)(d:Ga)(hd:DoS d):∃fr',Zg rE [1,2,5,6,7] c65L1b [(1,I i),(2,stI s),(5,.ptr 0 0 0 1),(6,I d.After.l.length),(7,.int .i64 0)] [.row 16 [Zo d]] =
 some (if Zu (afS s i d.After.l) 0 d.After.l=true then .exit 0 else .ret,fr',[.row 16 [Zo d]])/\
 (Zu (afS s i d.After.l) 0 d.After.l=true->get fr' 5=.ptr 0 0 0 1/\get fr' 6=I d.After.l.length)/\(Zu (afS s i d.After.l) 0 d.After.l=false->get fr' 4=.bool false):=by
 have hl:=hd.after;exact QT (E:=rE) (live:=[1,2,5,6,7]) (b:=c65L1b) (h:=[.row 16 [Zo d]]) d.After.l (afS s i d.After.l) (λj=>[(1,I i),(2,stI s),(5,.ptr 0 0 0 1),(6,I d.After.l.length),(7,I j)]) 0
  (λfr=>get fr 5=.ptr 0 0 0 1/\get fr 6=I d.After.l.length) (λfr=>get fr 4=.bool false) (λk=>rfl)
  (λk x hx hP=>by
   have hg:=Z6 (f:=encS) hx;have hlt:=Zh<|Z7 hx;have hw:=Zx (n:=k) (by have:=Z7 hx;omega)
   obtain⟨fr',h1,h2,_⟩:=ZRR (stI s) (λn=>rfl) i d hd k x hx
   have hf:=ZPo s hs x;unfold afS at hP;rw[ZWT,ZXn]at hP;rw[hP.2]at h1;obtain⟨g1,g2,g5,g6,g7⟩:=h2 hP.2;refine⟨_,by simp only[go_sem,c65L1b,c65L0,Zo,hg,hlt,hw,encS,hf,hP.1,if_true];rw[show(AV.agg [.str d.Id,.str d.Ev,.str d.By,I d.bh,I d.An.N,.str d.An.bm,I d.An.Num,I d.An.Den,I d.bg.X,I d.bg.Y,I d.From,I d.Ld,.isl false d.After.ex 1<|d.After.l.map encS,I d.Why,I d.bv,.str d.Veil])=Zo d from rfl,h1];simp only[go_sem,hw,g1,g2,g5,g6,g7,if_true];rfl,?_⟩
   simp only[go_sem])
  (λk x hx hP=>by
   have hg:=Z6 (f:=encS) hx;have hlt:=Zh<|Z7 hx;obtain⟨fr',h1,_,h2⟩:=ZRR (stI s) (λn=>rfl) i d hd k x hx
   have hf:=ZPo s hs x;unfold afS at hP;cases c:decide (Zn s x<=i)with
   |true=>
    refine⟨_,by simp only[go_sem,c65L1b,Zo,hg,hlt,encS,hf,c];rfl,?_⟩
    simp only[go_sem]
   |false=>
    rw[c,ZWU,ZWR]at hP;rw[hP]at h1;refine⟨_,by simp only[go_sem,c65L1b,c65L0,Zo,hg,hlt,encS,hf,c,if_true];rw[show(AV.agg [.str d.Id,.str d.Ev,.str d.By,I d.bh,I d.An.N,.str d.An.bm,I d.An.Num,I d.An.Den,I d.bg.X,I d.bg.Y,I d.From,I d.Ld,.isl false d.After.ex 1<|d.After.l.map encS,I d.Why,I d.bv,.str d.Veil])=Zo d from rfl,h1];simp only[go_sem,ZX2,if_false];rfl,?_⟩
    simp only[go_sem,h2 hP])
  (⟨_,by simp only[go_sem,c65L1b,ZG];rfl,by simp only[go_sem],by simp only[go_sem]⟩)
def ZPb(d:Ga):Bool:=
 bif d.Ld==-1 then(Yf d==0&&d.Why==0)else bif d.Why==12 then Yf d==0 else bif !Z3 d.Veil emp then false else
  ((d.Why==11&&Yf d==0)||((d.Why==9&&decide (Yf d>=2))&&decide (Yf d<=8)))||(d.Why==10&&Yf d==1)
def ZRS(s:Sta)(hs:StS s)(i:Nat)(d:Ga)(hx:s.Bc[i]?=some d)(hd:DoS d):pfn rE 65 [stA s,I i]=some (.bool<|Zu (afS s i d.After.l) 0 d.After.l&&ZPb d):=by
 obtain⟨fr',h1,h2,h3⟩:=ZUs s hs i d hd;have hg:=Z6 (f:=Ga.enc) hx;have hda:Ga.enc d=Zo d:=rfl;rw[hda]at hg;rw[Z5 (f:=65) rfl rfl];cases hc:Zu (afS s i d.After.l) 0 d.After.l with
 |false=>
  rw[hc]at h1;have g4:=h3 hc;unfold Zo at h1 hg;simp only[go_sem,c65,c65L1,hg,ZWQ,h1,g4,ZWV,ZX2]
 |true=>
  rw[hc]at h1;obtain⟨g5,g6⟩:=h2 hc;unfold Zo at h1 hg;unfold ZPb;have en:(d.After.l.length:Int)=Yf d:=rfl;rw[en]at h1 g6;cases c1:(d.Ld==-1)with
  |true=>cases c2:(Yf d==0)<;>simp only[go_sem,c65,c65L1,hg,ZWQ,en,h1,g5,g6,c1,c2,ZWV,ZWR]
  |false=>
  cases c3:(d.Why==12)with
  |true=>simp only[go_sem,c65,c65L1,hg,ZWQ,en,h1,g5,g6,c1,c3,ZWR]
  |false=>
  have nv:∀x:Str,(!Z3 x emp) = !Z3 x emp:=λ_=>rfl
  cases c4:Z3 d.Veil emp with
  |false=>simp only[go_sem,c65,c65L1,hg,ZWQ,en,h1,g5,g6,c1,c3,c4,ZWU,ZWX]
  |true=>
  cases c5:(d.Why==11)with
  |true=>
   have e:=eq_of_beq c5;have c7:(d.Why==9)=false:=by rw[e];rfl
   have c10:(d.Why==10)=false:=by rw[e];rfl
   cases c6:(Yf d==0)<;>simp only[go_sem,c65,c65L1,hg,ZWQ,en,h1,g5,g6,c1,c3,c4,c5,c6,c7,c10,ZWS,ZWR,ZWV,ZWW,ZWX,ZWY,ZXa,ZWZ,ZX9]
  |false=>
  cases c7:(d.Why==9)with
  |true=>
   have e:=eq_of_beq c7;have c10:(d.Why==10)=false:=by rw[e];rfl
   cases c8:decide (Yf d>=2)with
   |false=>simp only[go_sem,c65,c65L1,hg,ZWQ,en,h1,g5,g6,c1,c3,c4,c5,c7,c8,c10,ZWS,ZWR,ZWV,ZWW,ZWX,ZWY,ZXa,ZWZ,ZX9]
   |true=>cases c9:decide (Yf d<=8)<;>simp only[go_sem,c65,c65L1,hg,ZWQ,en,h1,g5,g6,c1,c3,c4,c5,c7,c8,c9,c10,ZWS,ZWR,ZWV,ZWW,ZWX,ZWY,ZXa,ZWZ,ZX9]
  |false=>
  cases c10:(d.Why==10)with
  |false=>simp only[go_sem,c65,c65L1,hg,ZWQ,en,h1,g5,g6,c1,c3,c4,c5,c7,c10,ZWS,ZWR,ZWV,ZWW,ZWX,ZWY,ZXa,ZWZ,ZX9]
  |true=>cases c11:(Yf d==1)<;>simp only[go_sem,c65,c65L1,hg,ZWQ,en,h1,g5,g6,c1,c3,c4,c5,c7,c10,c11,ZWS,ZWR,ZWV,ZWW,ZWX,ZWY,ZXa,ZWZ,ZX9]
def ZcX:List (List UInt8)->List (List UInt8)
 |[]=>[]
 |a::r=>match ZcX r with
  |[]=>[a]
  |b::s=>if a=b then b::s else a::b::s
def ZdC:∀l:List<|List UInt8,Ys (l.map Qd)=(ZcX l).map Qd
 |[]=>rfl
 |a::r=>by
  rw[ZX3];unfold Ys ZcX;rw[ZdC r];cases ZcX r with
  |nil=>rfl
  |cons b s=>
   have e:sameKey (Qd a) (Qd b)=decide (a=b):=by
    show Z3 _ _=_
    unfold Z3;have e1:(⟨a.toArray⟩:ByteArray).data.toList=a:=by simp
    have e2:(⟨b.toArray⟩:ByteArray).data.toList=b:=by simp
    rw[e1,e2];by_cases h:a=b
    .subst h;simp
    .rw[decide_eq_false h];simpa using h
   show(bif sameKey (Qd a) (Qd b)then _ else _)=_
   rw[e];by_cases h:a=b
   .simp[h]
   .simp[h]
def Ze5(a:List UInt8)(r:List<|List UInt8):∃t,ZcX (a::r)=a::t/\t.length<=r.length:=by
 induction r generalizing a with
 |nil=>exact⟨[],rfl,ZX0 _⟩
 |cons b s ih=>
  obtain⟨t,h1,h2⟩:=ih b;unfold ZcX;rw[h1];by_cases h:a=b
  .subst h;exact⟨t,by simp,by simp;omega⟩
  .exact⟨b::t,by simp[h],by simp;omega⟩
def Adj:List (List UInt8)->Prop
 |[]=>True
 |[_]=>True
 |a::b::r=>a≠b/\Adj (b::r)
def ZdD:∀l:List<|List UInt8,(ZcX l).length=l.length↔Adj l
 |[]=>⟨λ_=>trivial,λ_=>rfl⟩
 |[a]=>⟨λ_=>trivial,λ_=>rfl⟩
 |a::b::r=>by
  have ih:=ZdD<|b::r;obtain⟨t,h1,h2⟩:=Ze5 b r;rw[h1]at ih;unfold Adj;rw[<-ih];unfold ZcX;rw[h1];by_cases h:a=b
  .subst h;simp;omega
  .simp[h]
def ZdE:∀l:List<|List UInt8,l.Pairwise (λa b=>leB a b=true)->Adj l->l.Nodup
 |[],_,_=>.nil
 |[a],_,_=>by simp
 |a::b::r,hs,h=>by
  unfold Adj at h;rw[ZYE]at hs;have ih:=ZdE (b::r) hs.2 h.2;rw[ZY8];refine⟨λhm=>?_,ih⟩
  rcases ZXv.1 hm with e|hm
  .exact h.1 e
  .have hb:=(ZYE.1 hs.2).1 a hm;exact h.1<|ET _ _ (hs.1 b<|ZYa ..) hb
def ZdF:∀l:List<|List UInt8,l.Nodup->Adj l
 |[],_=>trivial
 |[a],_=>trivial
 |a::b::r,h=>by
  rw[ZY8]at h;exact⟨λe=>h.1 (by rw[e];exact ZYa ..),ZdF (b::r) h.2⟩
def bytes_inj{a b:Str}(h:a.data.toList=b.data.toList):a=b:=by
 obtain⟨⟨a⟩⟩:=a;obtain⟨⟨b⟩⟩:=b;have:a=b:=h;rw[this]
def ZdG{α β:Type}{f:α->β}(hf:∀a b,f a=f b->a=b):∀{l:List α},(l.map f).Nodup↔l.Nodup
 |[]=>by simp
 |a::r=>by
  rw[ZX3,ZY8,ZY8,ZdG hf];refine and_congr_left λ_=>not_congr ⟨λh=>?_,λh=>List.mem_map_of_mem h⟩
  obtain⟨b,hb,e⟩:=ZXP.1 h;rw[<-hf _ _ e];exact hb
def Ze6(l:List Str):l.map encS=(l.map (λx:Str=>x.data.toList)).map Qd:=by
 rw[List.map_map];apply ZZh;intro x _;obtain⟨⟨x⟩⟩:=x;rfl
def Zdk(l:List Str):Jq l=true↔l.Nodup:=by
 have e:(Ys<|Yk<|l.map encS).length=(ZcX<|WD<|l.map (λx:Str=>x.data.toList)).length:=by
  rw[Ze6,D4,ZdC,ZWQ]
 have hl:(WD<|l.map (λx:Str=>x.data.toList)).length=l.length:=by
  rw[(RS _).length_eq,ZWQ]
 unfold Jq;rw[beq_iff_eq,e];rw[show((ZcX<|WD<|l.map (λx:Str=>x.data.toList)).length:Int)=(l.length:Int)↔(ZcX<|WD<|l.map (λx:Str=>x.data.toList)).length=(WD<|l.map (λx:Str=>x.data.toList)).length from by rw[hl];omega]
 rw[ZdD];have h1:Adj (WD<|l.map (λx:Str=>x.data.toList))↔(WD<|l.map (λx:Str=>x.data.toList)).Nodup:=⟨ZdE _<|D8 _,ZdF _⟩
 rw[h1,(RS _).nodup_iff,ZdG<|λa b h=>bytes_inj h]
def ZRT:∀(l K:List Str),pwD Z3 K l=true↔l.Nodup/\∀x∈l,x ∉ K
 |[],K=>by simp[pwD]
 |x::r,K=>by
  have ha:K.any (Z3 x)=true↔x∈K:=by
   rw[List.any_eq_true];exact⟨λ⟨y,h1,h2⟩=>by rw[(Ky _ _).1 h2];exact h1,λh=>⟨x,h,ZOP x⟩⟩
  unfold pwD;rw[ZWT,ZXn,ZRT r<|K++[x],ZY8];have hb:K.any (Z3 x)=false↔x ∉ K:=by rw[<-ha];simp
  rw[hb];constructor
  .rintro⟨h1,h2,h3⟩;refine⟨⟨λh=>h3 x h (by simp),h2⟩,?_⟩
   intro y hy;rcases ZXv.1 hy with rfl|hy
   .exact h1
   .exact λh=>h3 y hy<|ZYm _ h
  .rintro⟨⟨h1,h2⟩,h3⟩;refine⟨h3 x (by simp),h2,?_⟩
   intro y hy h;rcases ZXF.1 h with h|h
   .exact h3 y (by simp[hy]) h
   .rw[ZXB]at h;subst h;exact h1 hy
def ZUt(l:List Str):XH Z3 l=true↔l.Nodup:=by
 unfold XH;have h:=(ZPF Z3 l []).2;rw[ZXt,ZXf,ZRT]at h;rw[beq_iff_eq];rw[show(((l.foldl (Qi Z3) []).length:Nat):Int)=(l.length:Int)↔(l.foldl (Qi Z3) []).length=l.length from by omega,h]
 simp
def ZRU(l:List Str):XH Z3 l=Jq l:=by
 rw[ZXq,ZUt,Zdk]
def ZUu(s:Sta)(i:Int)(d:Ga):Zu (afS s i d.After.l) 0 d.After.l=(K8 s i d&&Jq d.After.l):=by
 have e:∀k x,afS s i d.After.l k x=(!decide (Zn s x<=i)&&!(d.After.l.take k).any (Z3 x)):=λk x=>by
  unfold afS prS;rw[ZP0];congr 1;apply ZOn;intro y _;rw[ZOZ]
 rw[ZOY d.After.l 0 e,ZOX,<-ZPn,ZRU,QE<|λx=>!decide (Zn s x<=i)]
 rfl
def ZUv(d:Ga):ZPb d = !((((!(exD d==(d.Why==0)))||(exD d&&decide (Yf d>0)))||(!exD d&&!He d))):=by
 have hn:0<=Yf d:=by unfold Yf;omega
 have hp:decide (Yf d>0) = !(Yf d==0):=by
  rw[ZXq,decide_eq_true_eq,ZXn,beq_eq_false_iff_ne];omega
 unfold ZPb He exD ZD;rw[hp];cases c1:(d.Ld==-1)with
 |true=>cases(Yf d==0)<;>cases(d.Why==0)<;>rfl
 |false=>
 by_cases e12:d.Why=12
 .rw[e12];cases(Yf d==0)<;>rfl
 by_cases e11:d.Why=11
 .rw[e11];cases(Yf d==0)<;>cases Z3 d.Veil emp<;>rfl
 by_cases e9:d.Why=9
 .rw[e9];cases decide (Yf d>=2)<;>cases decide (Yf d<=8)<;>cases Z3 d.Veil emp<;>rfl
 by_cases e10:d.Why=10
 .rw[e10];cases(Yf d==1)<;>cases Z3 d.Veil emp<;>rfl
 have q12:(d.Why==12)=false:=beq_eq_false_iff_ne.2 e12;have q11:(d.Why==11)=false:=beq_eq_false_iff_ne.2 e11;have q9:(d.Why==9)=false:=beq_eq_false_iff_ne.2 e9;have q10:(d.Why==10)=false:=beq_eq_false_iff_ne.2 e10;rw[q12,q11,q9,q10];cases(d.Why==0)<;>cases Z3 d.Veil emp<;>simp
def ZOD(s:Sta)(i:Nat)(d:Ga):Bool:=ZD d.bh 0 63&&(ZD d.Ld (-1) 100000&&(ZD d.From 0 100000&&((Zu (afS s i d.After.l) 0 d.After.l&&ZPb d)&&(bif Z3 d.Veil emp then ZOR s d else ZOC d))))
def ZUw(s:Sta)(i:Nat)(d:Ga):ZOD s i d=Vr s i d:=by
 unfold ZOD Vr Hg QM UC;rw[ZUu,ZUv,ZUr];unfold ZOR;generalize(((!(exD d==(d.Why==0)))||(exD d&&decide (Yf d>0)))||(!exD d&&!He d))=b;cases ZD d.bh 0 63<;>cases ZD d.Ld (-1) 100000<;>cases ZD d.From 0 100000<;>cases K8 s i d<;>cases Jq d.After.l<;>cases b<;>cases Z3 d.Veil emp<;>simp[Bool.and_comm]
def twD(a b:Ga):Bool:=Z3 a.Veil emp&&(Z3 b.Veil emp&&((a.Ld==-1)&&((b.Ld==-1)&&(Z3 a.By b.By&&QL a.An b.An))))
def ZOE(l:List Ga)(i:Nat)(x:Ga):Bool:=(l.take i).all (λy=>!twD x y)
def ZRV(w:Bool)(s:Sta)(hs:StS s)(i:Nat)(x:Ga)(hx:s.Bc[i]?=some x):∃fr',Zg rE [1,3,4] c55L0b [(1,stJ w s),(3,I i),(4,.int .i64 0)] [] =
 some (if ZOE s.Bc i x=true then .exit 2 else .ret,fr',[])/\
 (ZOE s.Bc i x=true->get fr' 1=stJ w s/\get fr' 3=I i)/\(ZOE s.Bc i x=false->get fr' 2=.bool false):=by
 have hgx:=Z6 (f:=Ga.enc) hx;have hli:=Z7 hx;have hl:=hs.doors;rw[show Ga.enc x=Zo x from rfl]at hgx
 have L:=QT (E:=rE) (live:=[1,3,4]) (b:=c55L0b) (h:=[]) (s.Bc.take i) (λ_ y=>!twD x y) (λj=>[(1,stJ w s),(3,I i),(4,I j)]) 2
  (λfr=>get fr 1=stJ w s/\get fr 3=I i) (λfr=>get fr 2=.bool false) (λk=>rfl)
  (λj y hy hP=>by
   obtain⟨hy',hk⟩:=HH hy;have hgy:=Z6 (f:=Ga.enc) hy';rw[show Ga.enc y=Zo y from rfl]at hgy
   have hlt:=Zh hk;have hw:=Zx (n:=j)<|by omega
   have hP':twD x y=false:=by simpa using hP
   unfold twD at hP';have hh:(x.An.N==y.An.N&&(Z3 x.An.bm y.An.bm&&(x.An.Num==y.An.Num&&x.An.Den==y.An.Den)))=QL x.An y.An:=rfl;unfold Zo at hgx hgy;cases c1:Z3 x.Veil emp with
   |false=>
    refine⟨_,by simp only[go_sem,c55L0b,hgx,hgy,hlt,hw,c1];rfl,?_⟩
    simp only[go_sem]
   |true=>
   cases c2:Z3 y.Veil emp with
   |false=>
    refine⟨_,by simp only[go_sem,c55L0b,hgx,hgy,hlt,hw,c1,c2];rfl,?_⟩
    simp only[go_sem]
   |true=>
   cases c3:(x.Ld==-1)with
   |false=>
    refine⟨_,by simp only[go_sem,c55L0b,hgx,hgy,hlt,hw,c1,c2,c3];rfl,?_⟩
    simp only[go_sem]
   |true=>
   cases c4:(y.Ld==-1)with
   |false=>
    refine⟨_,by simp only[go_sem,c55L0b,hgx,hgy,hlt,hw,c1,c2,c3,c4];rfl,?_⟩
    simp only[go_sem]
   |true=>
   cases c5:Z3 x.By y.By with
   |false=>
    refine⟨_,by simp only[go_sem,c55L0b,hgx,hgy,hlt,hw,c1,c2,c3,c4,c5];rfl,?_⟩
    simp only[go_sem]
   |true=>
    rw[c1,c2,c3,c4,c5,ZWR,ZWR,ZWR,ZWR,ZWR]at hP';refine⟨_,by simp only[go_sem,c55L0b,hgx,hgy,hlt,hw,c1,c2,c3,c4,c5,hh,hP'];rfl,?_⟩
    simp only[go_sem])
  (λj y hy hP=>by
   obtain⟨hy',hk⟩:=HH hy;have hgy:=Z6 (f:=Ga.enc) hy';rw[show Ga.enc y=Zo y from rfl]at hgy
   have hlt:=Zh hk;have hP':twD x y=true:=by simpa using hP
   unfold twD at hP';simp only[ZWT]at hP';obtain⟨c1,c2,c3,c4,c5,c6⟩:=hP';have hh:(x.An.N==y.An.N&&(Z3 x.An.bm y.An.bm&&(x.An.Num==y.An.Num&&x.An.Den==y.An.Den)))=QL x.An y.An:=rfl;unfold Zo at hgx hgy;refine⟨_,by simp only[go_sem,c55L0b,hgx,hgy,hlt,c1,c2,c3,c4,c5,hh,c6];rfl,?_⟩
   simp only[go_sem])
  (by
   have e:(s.Bc.take i).length=i:=by rw[ZXL];omega
   rw[e];exact⟨_,by simp only[go_sem,c55L0b,ZG];rfl,by simp only[go_sem],by simp only[go_sem]⟩)
 rw[QE]at L;exact L
def ZRW(w:Bool)(s:Sta)(hs:StS s):pfn rE 55 [stW w s]=some (.bool<|Zu (ZOE s.Bc) 0 s.Bc):=by
 have hl:=hs.doors;have L:=Uf (E:=rE) (live:=[1,3]) (b:=c55L1b) (h:=[]) s.Bc (ZOE s.Bc) (λi=>[(1,stJ w s),(3,I i)]) 0 (λfr=>get fr 2=.bool false) (λk=>rfl)
  (λi x hx hP=>by
   have hlt:=Zh<|Z7 hx;have hw:=Zx (n:=i) (by have:=Z7 hx;omega)
   obtain⟨fr',h1,h2,_⟩:=ZRV w s hs i x hx;rw[hP]at h1;obtain⟨g1,g3⟩:=h2 hP;refine⟨_,by simp only[go_sem,c55L1b,c55L0,hlt,hw,h1,g1,g3,ZWQ,if_true];rfl,?_⟩
   simp only[go_sem])
  (λi x hx hP=>by
   have hlt:=Zh<|Z7 hx;obtain⟨fr',h1,_,h2⟩:=ZRV w s hs i x hx;rw[hP]at h1;refine⟨_,by simp only[go_sem,c55L1b,c55L0,hlt,h1,ZWQ,ZX2,if_false];rfl,?_⟩
   simp only[go_sem,h2 hP])
  (⟨_,by simp only[go_sem,c55L1b,ZG,ZWQ];rfl⟩)
 obtain⟨fr',h1,h2⟩:=L;have h1':Zg rE [1,3] c55L1b [(1,stJ w s),(3,.int .i64 0)] []=_:=h1;rw[Z5 (f:=55) rfl rfl];cases hc:Zu (ZOE s.Bc) 0 s.Bc with
 |false=>rw[hc]at h1';simp only[go_sem,c55,c55L1,h1',h2 hc,ZX2]
 |true=>rw[hc]at h1';simp only[go_sem,c55,c55L1,h1']
def ZUx(s:Sta)(hs:StS s):pfn rE 55 [stA s]=some (.bool<|Zu (ZOE s.Bc) 0 s.Bc):=ZRW false s hs
def ZUy(l:List Ga)(a:Adr)(hr:∀x y,XK x y=true↔x=y):∀K:List Adr,(l.foldl Hd K).any (XK a)=(K.any (XK a)||l.any (λy=>!Jr y&&XK a (WI y))):=by
 induction l with
 |nil=>intro K;simp
 |cons x r ih=>
  intro K;rw[ZYe,ih,ZXR,<-Bool.or_assoc];congr 1;unfold Hd;cases hs:Jr x with
  |true=>simp
  |false=>
   rw[cond_false];unfold Qi;cases hk:K.any (XK<|WI x)with
   |true=>
    rw[cond_true];cases he:XK a (WI x)with
    |false=>simp
    |true=>rw[(hr _ _).1 he,hk];simp
   |false=>rw[cond_false,List.any_append];simp
structure Prop'(s:Sta):Prop where
 rg:∀x∈s.Fa,Vo x=true
 st:∀x∈s.Gm,Vp x=true
 bu:∀x∈s.Bt,Vq x=true
 dr:∀(i:Nat)d,s.Bc[i]?=some d->Vr s i d=true
 un:∀x∈s.Nk,Vs s x=true
 ids:(Qp s).Nodup
 pa:WK s=true
def Zda{α:Type}{P:Nat->α->Bool}:∀{l:List α}{i:Nat},Zu P i l=true↔∀(j:Nat)x,l[j]?=some x->P (i+j) x=true
 |[],i=>⟨λ_ j x h=>(by simp at h),λ_=>rfl⟩
 |y::r,i=>by
  unfold Zu;rw[ZWT,Zda (l:=r)];constructor
  .rintro⟨h1,h2⟩ j x hx;cases j with
   |zero=>cases hx;exact h1
   |succ j=>have:=h2 j x hx;rw[show i+(j+1)=i+1+j by omega];exact this
  .intro h;exact⟨h 0 y rfl,λj x hx=>by have:=h (j+1) x hx;rw[show i+1+j=i+(j+1)by omega];exact this⟩
def Zdb(s:Sta):Jx s=true↔Prop' s/\Wh s.Bc=true:=by
 unfold Jx;simp only[ZWT];constructor
 .rintro⟨h1,h2,h3,h4,h5,h6,h7,h8⟩;exact⟨⟨ZXl.1 h1,ZXl.1 h2,ZXl.1 h3,λi d hd=>by have:=Zda.1 h4 i d hd;rwa[ZXf]at this,ZXl.1 h5,(Zdk _).1 h6,h8⟩,h7⟩
 .rintro⟨⟨h1,h2,h3,h4,h5,h6,h8⟩,h7⟩;exact⟨ZXl.2 h1,ZXl.2 h2,ZXl.2 h3,Zda.2 (λi d hd=>by rw[ZXf];exact h4 i d hd),ZXl.2 h5,(Zdk _).2 h6,h7,h8⟩
def look{α:Type}(f:α->Str)(l:List α)(id:Str):Int:=Zp (λx=>Z3 (f x) id) l 0
def ZdH{α:Type}(P:α->Bool):∀(l m:List α)(i:Int),Zp P l i≠-1->0<=i->Zp P (l++m) i=Zp P l i
 |[],m,i,h,_=>absurd rfl h
 |x::r,m,i,h,hi=>by
  unfold Zp at h⊢;cases hx:P x with
  |true=>simp[hx]
  |false=>
   rw[hx]at h;simp only[ZXj,hx]at h⊢;exact ZdH P r m (i+1) h<|by omega
def Ze7{α:Type}{f:α->Str}{l:List α}{id:Str}(h:decide (look f l id<0)=true):look f l id=-1:=by
 unfold look at h⊢;rcases UA (λx=>Z3 (f x) id) l 0 with⟨h1,_⟩|⟨j,x,h1,_⟩
 .exact h1
 .have:=of_decide_eq_true h;omega
def Zdt{α:Type}{f:α->Str}{l m:List α}{id:Str}(h:decide (look f l id<0)=false):look f (l++m) id=look f l id:=by
 unfold look;apply ZdH
 .intro e;have:=of_decide_eq_false h;unfold look at this;omega
 .omega
def Zdc{α:Type}{f:α->Str}{l m:List α}{id:Str}(h:l.map f=m.map f):look f l id=look f m id:=by
 unfold look;rw[NX f (λy=>Z3 y id) l 0,NX f (λy=>Z3 y id) m 0,h]
def ZcU{α:Type}{f:α->Str}{l:List α}{id:Str}(h:decide (look f l id<0)=false):∃(j:Nat)(x:α),look f l id=(j:Int)/\l[j]?=some x/\f x=id:=by
 unfold look at h⊢;rcases UA (λx=>Z3 (f x) id) l 0 with⟨h1,_⟩|⟨j,x,h1,h2,h3⟩
 .rw[h1]at h;cases h
 .exact⟨j,x,by omega,h2,by have:=ZYD h3;exact(Ky _ _).1 this⟩
def Ze8{α:Type}{f:α->Str}{l:List α}{x:α}(h:x∈l):decide (look f l (f x)<0)=false:=by
 unfold look;rcases UA (λy=>Z3 (f y)<|f x) l 0 with⟨_,h2⟩|⟨j,y,h1,_,_⟩
 .exfalso;have:=List.find?_eq_none.1 h2 x h;exact this<|(Ky _ _).2 rfl
 .exact decide_eq_false<|by omega
def ZEz(s:Sta)(id:Str):Zn s id=look (λx:Ga=>x.Id) s.Bc id:=rfl
def knB(s:Sta)(id:Str):Bool:=decide (Qo s id>=0)||(decide (ZL s id>=0)||(decide (Y1 s id>=0)||(decide (Zn s id>=0)||decide (Wf s id>=0))))
def ZOF(w:Bool)(s:Sta)(hs:StS s)(id:Str):pfn rE 146 [stW w s,.str id]=some (.bool<|knB s id):=by
 have h1:=ZPJ w s hs id;have h2:=ZOQ w s hs id;have h3:=ZPK w s hs id;have h4:=ZOg w s hs id;have h5:=ZRO w s hs id;rw[Z5 (f:=146) rfl rfl];unfold knB;cases c1:decide (Qo s id>=0)with
 |true=>simp only[go_sem,c146,h1,c1,ZWY]
 |false=>
 cases c2:decide (ZL s id>=0)with
 |true=>simp only[go_sem,c146,h1,h2,c1,c2,ZWY,ZWZ]
 |false=>
 cases c3:decide (Y1 s id>=0)with
 |true=>simp only[go_sem,c146,h1,h2,h3,c1,c2,c3,ZWY,ZWZ]
 |false=>
 cases c4:decide (Zn s id>=0)<;>simp only[go_sem,c146,h1,h2,h3,h4,h5,c1,c2,c3,c4,ZWY,ZWZ]
def ZUz{α:Type}(f:α->Str)(id:Str)(l:List α):(l.map f).any (Z3 id)=decide (look f l id>=0):=by
 cases h:decide (look f l id<0)with
 |true=>
  have hn:=Ze7 h;rw[hn];rw[ZYG.2 ?_]
  .rfl
  .intro x hx e;obtain⟨y,hy,rfl⟩:=ZXP.1 hx;have:=Ze8 (f:=f) hy;rw[<-(Ky _ _).1 e,h]at this;cases this
 |false=>
  obtain⟨j,x,h1,h2,h3⟩:=ZcU h;rw[h1,decide_eq_true (by omega:(j:Int)>=0)]
  exact List.any_eq_true.2 ⟨id,ZXP.2 ⟨x,ZXk h2,h3⟩,(Ky _ _).2 rfl⟩
def ZUA(s:Sta)(id:Str):knB s id=(Qp s).any (Z3 id):=by
 unfold knB Qp;simp only[List.any_append,ZUz];rfl
abbrev rL(x0 x1:AObj)(s:Sta)(t:Hp):Hp:=x0::x1::.row 6 (s.Fa.map Gk.enc)::.row 5 (s.Gm.map By.enc)::.row 4 (s.Bt.map Ev.enc)::.row 16 (s.Bc.map Ga.enc)::.row 6 (s.Nk.map be.enc)::.row 2 (s.Gc.map bf.enc)::.row 2 (s.ba.map bf.enc)::.row 7 [.agg<|slS s]::t
def clS(s:Sta):Z4 (slS s)=false:=rfl
def cR(K:List Gk):Z4 (K.map Gk.enc)=true:=Zw (λt=>rfl) K
def cT(K:List By):Z4 (K.map By.enc)=true:=Zw (λt=>rfl) K
def cB(K:List Ev):Z4 (K.map Ev.enc)=true:=Zw (λt=>rfl) K
def cD(K:List Ga):Z4 (K.map Ga.enc)=true:=Zw (λt=>rfl) K
def cU(K:List be):Z4 (K.map be.enc)=true:=Zw (λt=>rfl) K
def cP(K:List bf):Z4 (K.map bf.enc)=true:=Zw (λt=>rfl) K
def ZP2{h:Hp}{n b g sz:Nat}{es:List AV}(hb:rowAt h b g=some (sz,es))(hl:es.length=g)(hc:Z4 es=true):freeze true h (n+2) (.sl b g 0 g false)=some (.isl true false sz es):=by
 subst hl;rw[Z14,hb,Z13,ZXO,ZXp<|ZX0 _,Z0Y hc];rfl
def ZP3{h:Hp}{b g sz:Nat}{es:List AV}(hb:h[b]?=some (.row sz es))(hl:es.length=g):rowAt h b g=some (sz,es):=by
 subst hl;simp[rowAt,hb]
def ZRX(x0 x1:AObj)(s:Sta)(t:Hp)(n:Nat):freeze true (rL x0 x1 s t) (n+10) (.agg<|slS s)=some (stW true s):=by
 have q2:=λn=>ZP2 (h:=rL x0 x1 s t) (n:=n) (g:=s.Fa.length) (es:=s.Fa.map Gk.enc) (ZP3 (b:=2) rfl (by simp)) (by simp)<|cR _
 have q3:=λn=>ZP2 (h:=rL x0 x1 s t) (n:=n) (g:=s.Gm.length) (es:=s.Gm.map By.enc) (ZP3 (b:=3) rfl (by simp)) (by simp)<|cT _
 have q4:=λn=>ZP2 (h:=rL x0 x1 s t) (n:=n) (g:=s.Bt.length) (es:=s.Bt.map Ev.enc) (ZP3 (b:=4) rfl (by simp)) (by simp)<|cB _
 have q5:=λn=>ZP2 (h:=rL x0 x1 s t) (n:=n) (g:=s.Bc.length) (es:=s.Bc.map Ga.enc) (ZP3 (b:=5) rfl (by simp)) (by simp)<|cD _
 have q6:=λn=>ZP2 (h:=rL x0 x1 s t) (n:=n) (g:=s.Nk.length) (es:=s.Nk.map be.enc) (ZP3 (b:=6) rfl (by simp)) (by simp)<|cU _
 have q7:=λn=>ZP2 (h:=rL x0 x1 s t) (n:=n) (g:=s.Gc.length) (es:=s.Gc.map bf.enc) (ZP3 (b:=7) rfl (by simp)) (by simp)<|cP _
 have q8:=λn=>ZP2 (h:=rL x0 x1 s t) (n:=n) (g:=s.ba.length) (es:=s.ba.map bf.enc) (ZP3 (b:=8) rfl (by simp)) (by simp)<|cP _
 rw[Z12 _ _ _ _<|clS s];have hn:∀(l:List AV) ,Z4 (AV.sl 8 s.ba.length 0 s.ba.length false::l)=false:=λ_=>rfl
 simp only[Z10 _ _ _ (AV.sl _ _ _ _ _) _ rfl,q2,q3,q4,q5,q6,q7,q8,Z0Y (l:=[]) rfl,Z0M,Aj]
def ZUB(x0 x1:AObj)(s:Sta)(t:Hp)(v:AV)(hv:clean v=true):ZC true (rL x0 x1 s t) 40 [.agg<|slS s,v]=some [stW true s,v]:=by
 rw[Z10 _ _ _ _ _ rfl,ZRX x0 x1 s t 29,Z0Y<|by rw[N1,hv];rfl];rfl
def ZUC(x0 x1:AObj)(s:Sta)(t:Hp):ZC true (rL x0 x1 s t) 40 [.agg<|slS s]=some [stW true s]:=by
 rw[Z10 _ _ _ _ _ rfl,ZRX x0 x1 s t 29,Z0Y rfl];rfl
def ZRY(x0 x1:AObj)(s:Sta)(t:Hp):so2 (rL x0 x1 s t) (.agg<|slS s)=true:=by
 have e:∀b g o l ex,so1 (rL x0 x1 s t) (.sl b g o l ex)=ZPx (rL x0 x1 s t)[b]?:=λb g o l ex=>ZR8 _ _
 simp only[ZR5,ZR7,e,ZR6,ZXS,ZXy,ZR9,cR,cT,cB,cD,cU,cP,ZX8]
def ZUD(x0 x1:AObj)(s:Sta)(t:Hp)(id:Str):ZOd (rL x0 x1 s t) [.agg<|slS s,.str id]=⟨false,[2,3,4,5,6,7,8],none,none⟩:=by
 rw[ZQ6,show Zi [.agg<|slS s,.str id]=false from rfl,ZQ7,ZQ8,ZRY];rfl
def ZUE(x0 x1:AObj)(s:Sta)(t:Hp)(n:Int):ZOd (rL x0 x1 s t) [.agg<|slS s,I n]=⟨false,[2,3,4,5,6,7,8],none,none⟩:=by
 rw[ZQ6,show Zi [.agg<|slS s,I n]=false from rfl,ZQ7,ZQ8,ZRY];rfl
section
variable (x0 x1:AObj) (R:List Gk) (T:List By) (B:List Ev) (D:List Ga) (U:List be) (M L:List bf) (t:Hp)
abbrev rL7:Hp:=x0::x1::.row 6 (R.map Gk.enc)::.row 5 (T.map By.enc)::.row 4 (B.map Ev.enc)::.row 16 (D.map Ga.enc)::.row 6 (U.map be.enc)::.row 2 (M.map bf.enc)::.row 2 (L.map bf.enc)::.row 7 [.agg [.sl 2 R.length 0 R.length false,.sl 3 T.length 0 T.length false,.sl 4 B.length 0 B.length false,.sl 5 D.length 0 D.length false,.sl 6 U.length 0 U.length false,.sl 7 M.length 0 M.length false,.sl 8 L.length 0 L.length false]]::t
abbrev sl7:AV:=.agg [.sl 2 R.length 0 R.length false,.sl 3 T.length 0 T.length false,.sl 4 B.length 0 B.length false,.sl 5 D.length 0 D.length false,.sl 6 U.length 0 U.length false,.sl 7 M.length 0 M.length false,.sl 8 L.length 0 L.length false]
abbrev st7:AV:=.agg [.isl true false 6<|R.map Gk.enc,.isl true false 5<|T.map By.enc,.isl true false 4<|B.map Ev.enc,.isl true false 16<|D.map Ga.enc,.isl true false 6<|U.map be.enc,.isl true false 2<|M.map bf.enc,.isl true false 2<|L.map bf.enc]
def ZRZ(v:AV)(hv:clean v=true):ZC true (rL7 x0 x1 R T B D U M L t) 40 [sl7 R T B D U M L,v]=some [st7 R T B D U M L,v]:=ZUB x0 x1 ⟨R,T,B,D,U,M,L⟩ t v hv
def ZS0:ZC true (rL7 x0 x1 R T B D U M L t) 40 [sl7 R T B D U M L]=some [st7 R T B D U M L]:=ZUC x0 x1 ⟨R,T,B,D,U,M,L⟩ t
def ZUF(id:Str):ZOd (rL7 x0 x1 R T B D U M L t) [sl7 R T B D U M L,.str id]=⟨false,[2,3,4,5,6,7,8],none,none⟩:=ZUD x0 x1 ⟨R,T,B,D,U,M,L⟩ t id
def ZUG(n:Int):ZOd (rL7 x0 x1 R T B D U M L t) [sl7 R T B D U M L,I n]=⟨false,[2,3,4,5,6,7,8],none,none⟩:=ZUE x0 x1 ⟨R,T,B,D,U,M,L⟩ t n
def ZUH(v:AV)(hv:clean v=true):Ql (rL7 x0 x1 R T B D U M L t) [sl7 R T B D U M L,v]=some [st7 R T B D U M L,v]:=by
 rw[ZDW _ _ rfl,ZRZ _ _ _ _ _ _ _ _ _ _ _ hv]
def ZUI:Ql (rL7 x0 x1 R T B D U M L t) [sl7 R T B D U M L]=some [st7 R T B D U M L]:=by
 rw[ZDW _ _ rfl,ZS0]
attribute [go_sem 1200] ZRZ ZS0 ZUF ZUG ZUH ZUI
end
end Go.AM
namespace Go.AM
open Go
variable [REdz]
def Zil(x y:Adr):XK x y=true↔x=y:=by
 unfold XK;cases x with|mk s n=>cases n with|mk a b c d=>cases y with|mk s' n'=>cases n' with|mk a' b' c' d'=>
 simp only[ZWT,beq_iff_eq,Ky,Adr.mk.injEq,HN.mk.injEq]
def ZS1(l:List Ga):Zu (ZOE l) 0 l=Wh l:=by
 unfold Wh;apply ZOY;intro i x;unfold ZOE Y9;rw[ZUy _ _ Zil,ZY1,ZWZ,<-ZP0];have e:∀y,twD x y=(!Jr x&&(!Jr y&&XK (WI x) (WI y))):=λy=>by
  unfold twD Jr XK WI QL;simp only[bne,Bool.not_or,ZYH];cases Z3 x.Veil emp<;>cases Z3 y.Veil emp<;>cases(x.Ld==-1)<;>cases(y.Ld==-1)<;>rfl
 have e2:(l.take i).any (twD x)=(l.take i).any (λy=>!Jr x&&(!Jr y&&XK (WI x) (WI y))):=by
  congr 1;funext y;exact e y
 rw[e2];cases Jr x with
 |true=>simp
 |false=>simp
def ZUJ(s:Sta)(K:List Str)(hl:s.Fa.length<=1000)(hK:K.length<=10000):∃fr',Zg rE [1,3,4] c61L0b [(1,stI s),(3,.sl 0 K.length 0 K.length false),(4,.int .i64 0)] [.row 1<|K.map encS] =
 some (.exit 0,fr',[.row 1 ((K++s.Fa.map (·.Id)).map encS)])/\get fr' 1=stI s/\get fr' 3=.sl 0 (K.length+s.Fa.length) 0 (K.length+s.Fa.length) false:=by
 have hbS:∀n(K:List Str),Zd n (K.map encS)=true:=λn K=>ZN _<|Zw (λt=>rfl) K
 have L:=Y8 (E:=rE) (live:=[1,3,4]) (b:=c61L0b) s.Fa.length (λi=>[(1,stI s),(3,.sl 0 (K.length+i) 0 (K.length+i) false),(4,I i)])
  (λi=>[.row 1 ((K++(s.Fa.take i).map (·.Id)).map encS)]) (λi=>rfl)
  (λi hi=>by
   obtain⟨x,hx⟩:∃x,s.Fa[i]?=some x:=⟨_,ZX5 hi⟩;have hg:=Z6 (f:=Gk.enc) hx;have hi':=Zh hi;have hw:=Zx (n:=i)<|by omega
   have ht:=YW (λx:Gk=>x.Id) hx
   have hn:(K++(s.Fa.take i).map (·.Id)).length=K.length+i:=by rw[ZX7,ZWQ,take_len hx]
   have e1:(K++(s.Fa.take<|i+1).map (·.Id)).map encS=(K++(s.Fa.take i).map (·.Id)).map encS++[.str x.Id]:=by
    rw[ht,<-ZXx,ZX4];rfl
   rw[e1];generalize K++(s.Fa.take i).map (·.Id)=KS at hn⊢;rw[<-hn,<-ZXM,<-hn];have ha:=λq=>XC (h:=[.row 1<|KS.map encS,q]) (fz:=false) (b:=0) (g:=KS.length) (sz:=1) (es:=KS.map encS) (bw:=false) (ex:=false) (ys:=[.str x.Id]) (bytes:=16) (by simp[rowAt]) rfl (by rfl) (by omega) (by omega) (by simp;omega)
   have hb:=XC (h:=[.row 1<|KS.map encS]) (fz:=false) (b:=0) (g:=KS.length) (sz:=1) (es:=KS.map encS) (bw:=false) (ex:=false) (ys:=[.str x.Id]) (bytes:=16) (by simp[rowAt]) rfl (by rfl) (by omega) (by omega) (by simp;omega)
   refine⟨_,by simp only[go_sem,c61L0b,hg,hi',hw,Gk.enc,NL.enc,ha,hb,beq_self_eq_true,hbS,ZWQ];rfl,?_⟩
   simp only[go_sem])
  (e:=.exit 0) (by simp only[go_sem,c61L0b,ZG,ZXu,ZWQ];rfl) (by simp)
 have e0:K++(s.Fa.take 0).map (λx:Gk=>x.Id)=K:=by simp
 rw[e0]at L;refine⟨_,L,?_,?_⟩<;>simp only[go_sem]
def ZUK(s:Sta)(K:List Str)(hl:s.Gm.length<=1000)(hK:K.length<=10000):∃fr',Zg rE [1,3,5] c61L1b [(1,stI s),(3,.sl 0 K.length 0 K.length false),(5,.int .i64 0)] [.row 1<|K.map encS] =
 some (.exit 2,fr',[.row 1 ((K++s.Gm.map (·.Id)).map encS)])/\get fr' 1=stI s/\get fr' 3=.sl 0 (K.length+s.Gm.length) 0 (K.length+s.Gm.length) false:=by
 have hbS:∀n(K:List Str),Zd n (K.map encS)=true:=λn K=>ZN _<|Zw (λt=>rfl) K
 have L:=Y8 (E:=rE) (live:=[1,3,5]) (b:=c61L1b) s.Gm.length (λi=>[(1,stI s),(3,.sl 0 (K.length+i) 0 (K.length+i) false),(5,I i)])
  (λi=>[.row 1 ((K++(s.Gm.take i).map (·.Id)).map encS)]) (λi=>rfl)
  (λi hi=>by
   obtain⟨x,hx⟩:∃x,s.Gm[i]?=some x:=⟨_,ZX5 hi⟩;have hg:=Z6 (f:=By.enc) hx;have hi':=Zh hi;have hw:=Zx (n:=i)<|by omega
   have ht:=YW (λx:By=>x.Id) hx
   have hn:(K++(s.Gm.take i).map (·.Id)).length=K.length+i:=by rw[ZX7,ZWQ,take_len hx]
   have e1:(K++(s.Gm.take<|i+1).map (·.Id)).map encS=(K++(s.Gm.take i).map (·.Id)).map encS++[.str x.Id]:=by
    rw[ht,<-ZXx,ZX4];rfl
   rw[e1];generalize K++(s.Gm.take i).map (·.Id)=KS at hn⊢;rw[<-hn,<-ZXM,<-hn];have ha:=λq=>XC (h:=[.row 1<|KS.map encS,q]) (fz:=false) (b:=0) (g:=KS.length) (sz:=1) (es:=KS.map encS) (bw:=false) (ex:=false) (ys:=[.str x.Id]) (bytes:=16) (by simp[rowAt]) rfl (by rfl) (by omega) (by omega) (by simp;omega)
   have hb:=XC (h:=[.row 1<|KS.map encS]) (fz:=false) (b:=0) (g:=KS.length) (sz:=1) (es:=KS.map encS) (bw:=false) (ex:=false) (ys:=[.str x.Id]) (bytes:=16) (by simp[rowAt]) rfl (by rfl) (by omega) (by omega) (by simp;omega)
   refine⟨_,by simp only[go_sem,c61L1b,hg,hi',hw,By.enc,NL.enc,ha,hb,beq_self_eq_true,hbS,ZWQ];rfl,?_⟩
   simp only[go_sem])
  (e:=.exit 2) (by simp only[go_sem,c61L1b,ZG,ZXu,ZWQ];rfl) (by simp)
 have e0:K++(s.Gm.take 0).map (λx:By=>x.Id)=K:=by simp
 rw[e0]at L;refine⟨_,L,?_,?_⟩<;>simp only[go_sem]
def ZUL(s:Sta)(K:List Str)(hl:s.Bt.length<=1000)(hK:K.length<=10000):∃fr',Zg rE [1,3,6] c61L2b [(1,stI s),(3,.sl 0 K.length 0 K.length false),(6,.int .i64 0)] [.row 1<|K.map encS] =
 some (.exit 4,fr',[.row 1 ((K++s.Bt.map (·.Id)).map encS)])/\get fr' 1=stI s/\get fr' 3=.sl 0 (K.length+s.Bt.length) 0 (K.length+s.Bt.length) false:=by
 have hbS:∀n(K:List Str),Zd n (K.map encS)=true:=λn K=>ZN _<|Zw (λt=>rfl) K
 have L:=Y8 (E:=rE) (live:=[1,3,6]) (b:=c61L2b) s.Bt.length (λi=>[(1,stI s),(3,.sl 0 (K.length+i) 0 (K.length+i) false),(6,I i)])
  (λi=>[.row 1 ((K++(s.Bt.take i).map (·.Id)).map encS)]) (λi=>rfl)
  (λi hi=>by
   obtain⟨x,hx⟩:∃x,s.Bt[i]?=some x:=⟨_,ZX5 hi⟩;have hg:=Z6 (f:=Ev.enc) hx;have hi':=Zh hi;have hw:=Zx (n:=i)<|by omega
   have ht:=YW (λx:Ev=>x.Id) hx
   have hn:(K++(s.Bt.take i).map (·.Id)).length=K.length+i:=by rw[ZX7,ZWQ,take_len hx]
   have e1:(K++(s.Bt.take<|i+1).map (·.Id)).map encS=(K++(s.Bt.take i).map (·.Id)).map encS++[.str x.Id]:=by
    rw[ht,<-ZXx,ZX4];rfl
   rw[e1];generalize K++(s.Bt.take i).map (·.Id)=KS at hn⊢;rw[<-hn,<-ZXM,<-hn];have ha:=λq=>XC (h:=[.row 1<|KS.map encS,q]) (fz:=false) (b:=0) (g:=KS.length) (sz:=1) (es:=KS.map encS) (bw:=false) (ex:=false) (ys:=[.str x.Id]) (bytes:=16) (by simp[rowAt]) rfl (by rfl) (by omega) (by omega) (by simp;omega)
   have hb:=XC (h:=[.row 1<|KS.map encS]) (fz:=false) (b:=0) (g:=KS.length) (sz:=1) (es:=KS.map encS) (bw:=false) (ex:=false) (ys:=[.str x.Id]) (bytes:=16) (by simp[rowAt]) rfl (by rfl) (by omega) (by omega) (by simp;omega)
   refine⟨_,by simp only[go_sem,c61L2b,hg,hi',hw,Ev.enc,NL.enc,ha,hb,beq_self_eq_true,hbS,ZWQ];rfl,?_⟩
   simp only[go_sem])
  (e:=.exit 4) (by simp only[go_sem,c61L2b,ZG,ZXu,ZWQ];rfl) (by simp)
 have e0:K++(s.Bt.take 0).map (λx:Ev=>x.Id)=K:=by simp
 rw[e0]at L;refine⟨_,L,?_,?_⟩<;>simp only[go_sem]
def ZUM(s:Sta)(K:List Str)(hl:s.Bc.length<=1000)(hK:K.length<=10000):∃fr',Zg rE [1,3,7] c61L3b [(1,stI s),(3,.sl 0 K.length 0 K.length false),(7,.int .i64 0)] [.row 1<|K.map encS] =
 some (.exit 6,fr',[.row 1 ((K++s.Bc.map (·.Id)).map encS)])/\get fr' 1=stI s/\get fr' 3=.sl 0 (K.length+s.Bc.length) 0 (K.length+s.Bc.length) false:=by
 have hbS:∀n(K:List Str),Zd n (K.map encS)=true:=λn K=>ZN _<|Zw (λt=>rfl) K
 have L:=Y8 (E:=rE) (live:=[1,3,7]) (b:=c61L3b) s.Bc.length (λi=>[(1,stI s),(3,.sl 0 (K.length+i) 0 (K.length+i) false),(7,I i)])
  (λi=>[.row 1 ((K++(s.Bc.take i).map (·.Id)).map encS)]) (λi=>rfl)
  (λi hi=>by
   obtain⟨x,hx⟩:∃x,s.Bc[i]?=some x:=⟨_,ZX5 hi⟩;have hg:=Z6 (f:=Ga.enc) hx;have hi':=Zh hi;have hw:=Zx (n:=i)<|by omega
   have ht:=YW (λx:Ga=>x.Id) hx
   have hn:(K++(s.Bc.take i).map (·.Id)).length=K.length+i:=by rw[ZX7,ZWQ,take_len hx]
   have e1:(K++(s.Bc.take<|i+1).map (·.Id)).map encS=(K++(s.Bc.take i).map (·.Id)).map encS++[.str x.Id]:=by
    rw[ht,<-ZXx,ZX4];rfl
   rw[e1];generalize K++(s.Bc.take i).map (·.Id)=KS at hn⊢;rw[<-hn,<-ZXM,<-hn];have ha:=λq=>XC (h:=[.row 1<|KS.map encS,q]) (fz:=false) (b:=0) (g:=KS.length) (sz:=1) (es:=KS.map encS) (bw:=false) (ex:=false) (ys:=[.str x.Id]) (bytes:=16) (by simp[rowAt]) rfl (by rfl) (by omega) (by omega) (by simp;omega)
   have hb:=XC (h:=[.row 1<|KS.map encS]) (fz:=false) (b:=0) (g:=KS.length) (sz:=1) (es:=KS.map encS) (bw:=false) (ex:=false) (ys:=[.str x.Id]) (bytes:=16) (by simp[rowAt]) rfl (by rfl) (by omega) (by omega) (by simp;omega)
   refine⟨_,by simp only[go_sem,c61L3b,hg,hi',hw,Ga.enc,NL.enc,ha,hb,beq_self_eq_true,hbS,ZWQ];rfl,?_⟩
   simp only[go_sem])
  (e:=.exit 6) (by simp only[go_sem,c61L3b,ZG,ZXu,ZWQ];rfl) (by simp)
 have e0:K++(s.Bc.take 0).map (λx:Ga=>x.Id)=K:=by simp
 rw[e0]at L;refine⟨_,L,?_,?_⟩<;>simp only[go_sem]
def ZUN(s:Sta)(K:List Str)(hl:s.Nk.length<=1000)(hK:K.length<=10000):∃fr',Zg rE [1,3,8] c61L4b [(1,stI s),(3,.sl 0 K.length 0 K.length false),(8,.int .i64 0)] [.row 1<|K.map encS] =
 some (.exit 8,fr',[.row 1 ((K++s.Nk.map (·.Id)).map encS)])/\get fr' 1=stI s/\get fr' 3=.sl 0 (K.length+s.Nk.length) 0 (K.length+s.Nk.length) false:=by
 have hbS:∀n(K:List Str),Zd n (K.map encS)=true:=λn K=>ZN _<|Zw (λt=>rfl) K
 have L:=Y8 (E:=rE) (live:=[1,3,8]) (b:=c61L4b) s.Nk.length (λi=>[(1,stI s),(3,.sl 0 (K.length+i) 0 (K.length+i) false),(8,I i)])
  (λi=>[.row 1 ((K++(s.Nk.take i).map (·.Id)).map encS)]) (λi=>rfl)
  (λi hi=>by
   obtain⟨x,hx⟩:∃x,s.Nk[i]?=some x:=⟨_,ZX5 hi⟩;have hg:=Z6 (f:=be.enc) hx;have hi':=Zh hi;have hw:=Zx (n:=i)<|by omega
   have ht:=YW (λx:be=>x.Id) hx
   have hn:(K++(s.Nk.take i).map (·.Id)).length=K.length+i:=by rw[ZX7,ZWQ,take_len hx]
   have e1:(K++(s.Nk.take<|i+1).map (·.Id)).map encS=(K++(s.Nk.take i).map (·.Id)).map encS++[.str x.Id]:=by
    rw[ht,<-ZXx,ZX4];rfl
   rw[e1];generalize K++(s.Nk.take i).map (·.Id)=KS at hn⊢;rw[<-hn,<-ZXM,<-hn];have ha:=λq=>XC (h:=[.row 1<|KS.map encS,q]) (fz:=false) (b:=0) (g:=KS.length) (sz:=1) (es:=KS.map encS) (bw:=false) (ex:=false) (ys:=[.str x.Id]) (bytes:=16) (by simp[rowAt]) rfl (by rfl) (by omega) (by omega) (by simp;omega)
   have hb:=XC (h:=[.row 1<|KS.map encS]) (fz:=false) (b:=0) (g:=KS.length) (sz:=1) (es:=KS.map encS) (bw:=false) (ex:=false) (ys:=[.str x.Id]) (bytes:=16) (by simp[rowAt]) rfl (by rfl) (by omega) (by omega) (by simp;omega)
   refine⟨_,by simp only[go_sem,c61L4b,hg,hi',hw,be.enc,NL.enc,ha,hb,beq_self_eq_true,hbS,ZWQ];rfl,?_⟩
   simp only[go_sem])
  (e:=.exit 8) (by simp only[go_sem,c61L4b,ZG,ZXu,ZWQ];rfl) (by simp)
 have e0:K++(s.Nk.take 0).map (λx:be=>x.Id)=K:=by simp
 rw[e0]at L;refine⟨_,L,?_,?_⟩<;>simp only[go_sem]
def uqB(l:List Str)(i:Nat)(x:Str):Bool:=(l.take i).all (λy=>!Z3 x y)
def ZS2(l:List Str)(hl:l.length<=100000)(i:Nat)(x:Str)(hx:l[i]?=some x):∃fr',Zg rE [3,9,10] c61L5b [(3,.sl 0 l.length 0 l.length false),(9,I i),(10,.int .i64 0)] [.row 1<|l.map encS] =
 some (if uqB l i x=true then .exit 12 else .ret,fr',[.row 1<|l.map encS])/\
 (uqB l i x=true->get fr' 3=.sl 0 l.length 0 l.length false/\get fr' 9=I i)/\(uqB l i x=false->get fr' 2=.bool false):=by
 have hgx:=Z6 (f:=encS) hx;have hli:=Z7 hx;have hb1:=Zh hli;have hbS:∀n(K:List Str),Zd n (K.map encS)=true:=λn K=>ZN _<|Zw (λt=>rfl) K
 have L:=QT (E:=rE) (live:=[3,9,10]) (b:=c61L5b) (h:=[.row 1<|l.map encS]) (l.take i) (λ_ y=>!Z3 x y) (λk=>[(3,.sl 0 l.length 0 l.length false),(9,I i),(10,I k)]) 12
  (λfr=>get fr 3=.sl 0 l.length 0 l.length false/\get fr 9=I i) (λfr=>get fr 2=.bool false) (λk=>rfl)
  (λk y hy hP=>by
   obtain⟨hy',hk⟩:=HH hy;have hgy:=Z6 (f:=encS) hy';have hlt:=Zh hk;have hlk:=Zh<|Z7 hy';have hw:=Zx (n:=k)<|by omega
   have hP':Z3 x y=false:=by simpa using hP
   have hkl:=Z7 hy';have z1:=λes=>VT 0 l.length 0 1 (i:Int) l.length es ⟨by omega,by omega⟩
   have z2:=λes=>VT 0 l.length 0 1 (k:Int) l.length es ⟨by omega,by omega⟩
   have n1:((i:Int)).toNat=i:=rfl;have n2:((k:Int)).toNat=k:=rfl;refine⟨_,by simp only[go_sem,c61L5b,hgx,hgy,hlt,hw,z1,z2,n1,n2,if_true,hbS,beq_self_eq_true,encS,hP',ZXf,ZXA];rfl,?_⟩
   simp only[go_sem])
  (λk y hy hP=>by
   obtain⟨hy',hk⟩:=HH hy;have hgy:=Z6 (f:=encS) hy';have hlt:=Zh hk;have hP':Z3 x y=true:=by simpa using hP
   have hkl:=Z7 hy';have z1:=λes=>VT 0 l.length 0 1 (i:Int) l.length es ⟨by omega,by omega⟩
   have z2:=λes=>VT 0 l.length 0 1 (k:Int) l.length es ⟨by omega,by omega⟩
   have n1:((i:Int)).toNat=i:=rfl;have n2:((k:Int)).toNat=k:=rfl;refine⟨_,by simp only[go_sem,c61L5b,hgx,hgy,hlt,z1,z2,n1,n2,if_true,hbS,beq_self_eq_true,encS,hP',ZXf,ZXA];rfl,?_⟩
   simp only[go_sem])
  (by
   have e:(l.take i).length=i:=by rw[ZXL];omega
   rw[e];exact⟨_,by simp only[go_sem,c61L5b,ZG,hbS,beq_self_eq_true];rfl,by simp only[go_sem],by simp only[go_sem]⟩)
 rw[QE]at L;exact L
def ZUO(l:List Str)(hl:l.length<=100000):∃fr',Zg rE [3,9] c61L6b [(3,.sl 0 l.length 0 l.length false),(9,.int .i64 0)] [.row 1<|l.map encS] =
 some (if Zu (uqB l) 0 l=true then .exit 10 else .ret,fr',[.row 1<|l.map encS])/\(Zu (uqB l) 0 l=false->get fr' 2=.bool false):=by
 have hbS:∀n(K:List Str),Zd n (K.map encS)=true:=λn K=>ZN _<|Zw (λt=>rfl) K
 exact Uf (E:=rE) (live:=[3,9]) (b:=c61L6b) (h:=[.row 1<|l.map encS]) l (uqB l) (λi=>[(3,.sl 0 l.length 0 l.length false),(9,I i)]) 10 (λfr=>get fr 2=.bool false) (λk=>rfl)
  (λi x hx hP=>by
   have hlt:=Zh<|Z7 hx;have hw:=Zx (n:=i) (by have:=Z7 hx;omega)
   obtain⟨fr',h1,h2,_⟩:=ZS2 l hl i x hx;rw[hP]at h1;obtain⟨g3,g9⟩:=h2 hP;refine⟨_,by simp only[go_sem,c61L6b,c61L5,hlt,hw,h1,g3,g9,hbS,beq_self_eq_true,if_true];rfl,?_⟩
   simp only[go_sem])
  (λi x hx hP=>by
   have hlt:=Zh<|Z7 hx;obtain⟨fr',h1,_,h2⟩:=ZS2 l hl i x hx;rw[hP]at h1;refine⟨_,by simp only[go_sem,c61L6b,c61L5,hlt,h1,hbS,beq_self_eq_true,ZX2,if_false];rfl,?_⟩
   simp only[go_sem,h2 hP])
  (⟨_,by simp only[go_sem,c61L6b,ZG,hbS,beq_self_eq_true];rfl⟩)
def ZUP(l:List Str):Zu (uqB l) 0 l=Jq l:=by
 rw[<-ZRU,ZPn];apply ZOY;intro i x;unfold uqB;rw[ZP0]
def ZUQ(s:Sta)(hs:StS s):pfn rE 61 [stA s]=some (.bool<|Jq<|Qp s):=by
 have hbS:∀n(K:List Str),Zd n (K.map encS)=true:=λn K=>ZN _<|Zw (λt=>rfl) K
 have h0:=hs.regions;have h1:=hs.streets;have h2:=hs.buildings;have h3:=hs.doors;have h4:=hs.units;obtain⟨f0,L0,a0,b0⟩:=ZUJ s [] h0<|by simp
 obtain⟨f1,L1,a1,b1⟩:=ZUK s (s.Fa.map (·.Id)) h1<|by simp;omega
 obtain⟨f2,L2,a2,b2⟩:=ZUL s (s.Fa.map (·.Id)++s.Gm.map (·.Id)) h2<|by simp;omega
 obtain⟨f3,L3,a3,b3⟩:=ZUM s (s.Fa.map (·.Id)++s.Gm.map (·.Id)++s.Bt.map (·.Id)) h3<|by simp;omega
 obtain⟨f4,L4,a4,b4⟩:=ZUN s (s.Fa.map (·.Id)++s.Gm.map (·.Id)++s.Bt.map (·.Id)++s.Bc.map (·.Id)) h4<|by simp;omega
 have e:s.Fa.map (·.Id)++s.Gm.map (·.Id)++s.Bt.map (·.Id)++s.Bc.map (·.Id)++s.Nk.map (·.Id)=Qp s:=by unfold Qp;simp only[ZXx]
 rw[ZXm]at L0;rw[e]at L4;simp only[ZX7,ZWQ,ZXt,ZXf,ZX1]at L0 L1 L2 L3 L4 b0 b1 b2 b3 b4;have hlen:(Qp s).length=s.Fa.length+s.Gm.length+s.Bt.length+s.Bc.length+s.Nk.length:=by
  rw[<-e];simp only[ZX7,ZWQ]
 obtain⟨f6,L6,c6⟩:=ZUO (Qp s)<|by omega
 rw[hlen]at L6;rw[Z5 (f:=61) rfl rfl,<-ZUP];cases hc:Zu (uqB<|Qp s) 0 (Qp s)with
 |false=>rw[hc]at L6;simp only[go_sem,c61,c61L0,c61L1,c61L2,c61L3,c61L4,c61L6,L0,a0,b0,L1,a1,b1,L2,a2,b2,L3,a3,b3,L4,a4,b4,hbS,beq_self_eq_true,L6,c6 hc,ZX2,if_false]
 |true=>rw[hc]at L6;simp only[go_sem,c61,c61L0,c61L1,c61L2,c61L3,c61L4,c61L6,L0,a0,b0,L1,a1,b1,L2,a2,b2,L3,a3,b3,L4,a4,b4,hbS,beq_self_eq_true,L6,if_true]
def pOk(p:bf):Bool:=ZD p.a 0 63&&(ZD p.b 0 63&&!(p.a==p.b))
def ZUR(s:Sta)(hs:StS s):∃fr',Zg rE [1,3] c62L0b [(1,stI s),(3,.int .i64 0)] []=some (if s.ba.all pOk=true then .exit 0 else .ret,fr',[])/\
 (s.ba.all pOk=true->get fr' 1=stI s)/\(s.ba.all pOk=false->get fr' 2=.bool false):=by
 have hl:=hs.rulings;have n1:((1:Int)).toNat=1:=rfl;have n0:((0:Int)).toNat=0:=rfl;have L:=QT (E:=rE) (live:=[1,3]) (b:=c62L0b) (h:=[]) s.ba (λ_ p=>pOk p) (λi=>[(1,stI s),(3,I i)]) 0 (λfr=>get fr 1=stI s) (λfr=>get fr 2=.bool false) (λk=>rfl)
  (λi x hx hP=>by
   have hg:=Z6 (f:=bf.enc) hx;have hlt:=Zh<|Z7 hx;have hw:=Zx (n:=i) (by have:=Z7 hx;omega)
   unfold pOk at hP;simp only[ZWT,ZXn]at hP;obtain⟨p1,p2,p3⟩:=hP;have r1:=ZOa x.a;have r2:=ZOa x.b;refine⟨_,by simp only[go_sem,c62L0b,hg,hlt,hw,bf.enc,WJ,XL,n0,n1,if_true,r1,r2,p1,p2,p3,ZWQ,ZWS];rfl,?_⟩
   simp only[go_sem])
  (λi x hx hP=>by
   have hg:=Z6 (f:=bf.enc) hx;have hlt:=Zh<|Z7 hx;unfold pOk at hP;have r1:=ZOa x.a;have r2:=ZOa x.b;cases p1:ZD x.a 0 63 with
   |false=>
    refine⟨_,by simp only[go_sem,c62L0b,hg,hlt,bf.enc,WJ,XL,n0,n1,if_true,r1,p1,ZWQ,ZWU];rfl,?_⟩
    simp only[go_sem]
   |true=>
   cases p2:ZD x.b 0 63 with
   |false=>
    refine⟨_,by simp only[go_sem,c62L0b,hg,hlt,bf.enc,WJ,XL,n0,n1,if_true,r1,r2,p1,p2,ZWQ,ZWU,ZWS];rfl,?_⟩
    simp only[go_sem]
   |true=>
    rw[p1,p2,ZWR,ZWR,ZYb]at hP;refine⟨_,by simp only[go_sem,c62L0b,hg,hlt,bf.enc,WJ,XL,n0,n1,if_true,r1,r2,p1,p2,hP,ZWQ,ZWS];rfl,?_⟩
    simp only[go_sem])
  (⟨_,by simp only[go_sem,c62L0b,ZG,ZWQ];rfl,by simp only[go_sem]⟩)
 rw[QE]at L;exact L
def mgS(l:List bf)(i:Nat)(x:bf):Bool:=(l.take i).all (λq=>!(q.b==x.b))
def ZS3(s:Sta)(hs:StS s)(i:Nat)(x:bf)(hx:s.Gc[i]?=some x):∃fr',Zg rE [1,5,6,7] c62L1b [(1,stI s),(5,I i),(6,.ptr 0 0 0 1),(7,.int .i64 0)] [.row 2 [.agg [I x.a,I x.b]]] =
 some (if mgS s.Gc i x=true then .exit 4 else .ret,fr',[.row 2 [.agg [I x.a,I x.b]]])/\
 (mgS s.Gc i x=true->get fr' 1=stI s/\get fr' 5=I i)/\(mgS s.Gc i x=false->get fr' 1=stI s/\get fr' 5=I i/\get fr' 2=.bool false):=by
 have hl:=hs.merged;have hli:=Z7 hx;have n1:((1:Int)).toNat=1:=rfl;have L:=QT (E:=rE) (live:=[1,5,6,7]) (b:=c62L1b) (h:=[.row 2 [.agg [I x.a,I x.b]]]) (s.Gc.take i) (λ_ q=>!(q.b==x.b)) (λk=>[(1,stI s),(5,I i),(6,.ptr 0 0 0 1),(7,I k)]) 4 (λfr=>get fr 1=stI s/\get fr 5=I i) (λfr=>get fr 1=stI s/\get fr 5=I i/\get fr 2=.bool false) (λk=>rfl)
  (λk y hy hP=>by
   obtain⟨hy',hk⟩:=HH hy;have hgy:=Z6 (f:=bf.enc) hy';have hlt:=Zh hk;have hw:=Zx (n:=k)<|by omega
   have hP':(y.b==x.b)=false:=by simpa using hP
   refine⟨_,by simp only[go_sem,c62L1b,hgy,hlt,hw,bf.enc,XL,n1,if_true,hP'];rfl,?_⟩
   simp only[go_sem])
  (λk y hy hP=>by
   obtain⟨hy',hk⟩:=HH hy;have hgy:=Z6 (f:=bf.enc) hy';have hlt:=Zh hk;have hP':(y.b==x.b)=true:=by simpa using hP
   refine⟨_,by simp only[go_sem,c62L1b,hgy,hlt,bf.enc,XL,n1,if_true,hP'];rfl,?_⟩
   refine⟨?_,?_,?_⟩<;>simp only[go_sem])
  (by
   have e:(s.Gc.take i).length=i:=by rw[ZXL];omega
   rw[e];exact⟨_,by simp only[go_sem,c62L1b,ZG];rfl,by simp only[go_sem],by simp only[go_sem]⟩)
 rw[QE]at L;exact L
def mgB(l:List bf)(i:Nat)(x:bf):Bool:=pOk x&&mgS l i x
def ZUS(s:Sta)(hs:StS s):∃fr',Zg rE [1,5] c62L2b [(1,stI s),(5,.int .i64 0)] []=some (if Zu (mgB s.Gc) 0 s.Gc=true then .exit 2 else .ret,fr',[])/\
 (Zu (mgB s.Gc) 0 s.Gc=true->get fr' 1=stI s)/\(Zu (mgB s.Gc) 0 s.Gc=false->get fr' 2=.bool false):=by
 have hl:=hs.merged;have n1:((1:Int)).toNat=1:=rfl;have n0:((0:Int)).toNat=0:=rfl;exact QT (E:=rE) (live:=[1,5]) (b:=c62L2b) (h:=[]) s.Gc (mgB s.Gc) (λi=>[(1,stI s),(5,I i)]) 2 (λfr=>get fr 1=stI s) (λfr=>get fr 2=.bool false) (λk=>rfl)
  (λi x hx hP=>by
   have hg:(s.Gc.map bf.enc)[i]?=some (.agg [I x.a,I x.b]):=Z6 (f:=bf.enc) hx;have hlt:=Zh<|Z7 hx;have hw:=Zx (n:=i) (by have:=Z7 hx;omega)
   obtain⟨fr',h1,h2,_⟩:=ZS3 s hs i x hx;unfold mgB pOk at hP;simp only[ZWT,ZXn]at hP;obtain⟨⟨p1,p2,p3⟩,p4⟩:=hP;rw[p4]at h1;obtain⟨g1,g5⟩:=h2 p4;have r1:=ZOa x.a;have r2:=ZOa x.b;refine⟨_,by simp only[go_sem,c62L2b,c62L1,hg,hlt,hw,WJ,XL,n0,n1,if_true,r1,r2,p1,p2,p3,h1,g1,g5,ZWQ,ZWS];rfl,?_⟩
   simp only[go_sem])
  (λi x hx hP=>by
   have hg:(s.Gc.map bf.enc)[i]?=some (.agg [I x.a,I x.b]):=Z6 (f:=bf.enc) hx;have hlt:=Zh<|Z7 hx;obtain⟨fr',h1,_,h2⟩:=ZS3 s hs i x hx;unfold mgB pOk at hP;have r1:=ZOa x.a;have r2:=ZOa x.b;cases p1:ZD x.a 0 63 with
   |false=>
    refine⟨_,by simp only[go_sem,c62L2b,hg,hlt,WJ,XL,n0,n1,if_true,r1,p1,ZWQ,ZWU];rfl,?_⟩
    simp only[go_sem]
   |true=>
   cases p2:ZD x.b 0 63 with
   |false=>
    refine⟨_,by simp only[go_sem,c62L2b,hg,hlt,WJ,XL,n0,n1,if_true,r1,r2,p1,p2,ZWQ,ZWU,ZWS];rfl,?_⟩
    simp only[go_sem]
   |true=>
   cases p3:(x.a==x.b)with
   |true=>
    refine⟨_,by simp only[go_sem,c62L2b,hg,hlt,WJ,XL,n0,n1,if_true,r1,r2,p1,p2,p3,ZWQ,ZWS];rfl,?_⟩
    simp only[go_sem]
   |false=>
    rw[p1,p2,p3,ZWU,ZWR,ZWR,ZWR]at hP;rw[hP]at h1;obtain⟨g1,g5,g2⟩:=h2 hP;refine⟨_,by simp only[go_sem,c62L2b,c62L1,hg,hlt,g1,g5,g2,WJ,XL,n0,n1,if_true,r1,r2,p1,p2,p3,h1,ZWQ,ZWS,ZX2,if_false];rfl,?_⟩
    simp only[go_sem])
  (⟨_,by simp only[go_sem,c62L2b,ZG,ZWQ];rfl,by simp only[go_sem]⟩)
def ZQj(s:Sta)(hs:StS s)(a:Nat):∀(k n:Nat)(at':Int),n+k=65->∃fr',Zg rE [1,8,9,10] c62L3b [(1,stI s),(8,I a),(9,I at'),(10,I n)] []=some (if chN s k at'=true then .exit 8 else .ret,fr',[])/\
 (chN s k at'=true->get fr' 1=stI s/\get fr' 8=I a)/\(chN s k at'=false->get fr' 2=.bool false)
 |0,n,at',hk=>by
  have hn:n=65:=by omega
  subst hn;have hd:decide (((65:Nat):Int)>64)=true:=rfl;unfold chN;cases c:decide (at'>=0)with
  |false=>
   refine⟨_,Q7 rfl (by simp only[go_sem,c62L3b,c];rfl) (by simp),?_,?_⟩
   .intro _;constructor<;>simp only[go_sem]
   .intro h;cases h
  |true=>
   refine⟨_,Q7 rfl (by simp only[go_sem,c62L3b,c,hd];rfl) (by simp),?_,?_⟩
   .intro h;cases h
   .intro _;simp only[go_sem]
 |k+1,n,at',hk=>by
  have hd:decide (((n:Nat):Int)>64)=false:=decide_eq_false<|by omega
  have hw:=Zx (n:=n)<|by omega
  have ht:=ZUq s hs at';unfold chN;cases c:decide (at'>=0)with
  |false=>
   refine⟨_,Q7 rfl (by simp only[go_sem,c62L3b,c];rfl) (by simp),?_,?_⟩
   .intro _;constructor<;>simp only[go_sem]
   .intro h;cases h
  |true=>
   obtain⟨fr',h1,h2⟩:=ZQj s hs a k (n+1) (XJ s at')<|by omega
   refine⟨fr',?_,h2⟩;rw[cond_true,<-h1];rw[Yt rfl (by simp only[go_sem,c62L3b,c,hd,hw,ht];rfl)]
   simp only[go_sem]
def ZUT(s:Sta)(hs:StS s):∃fr',Zg rE [1,8] c62L4b [(1,stI s),(8,.int .i64 0)] []=some (if(List.range 64).all (λa=>chN s 65 a)=true then .exit 6 else .ret,fr',[])/\((List.range 64).all (λa=>chN s 65 a)=false->get fr' 2=.bool false):=by
 have hr:∀(i a:Nat),(List.range 64)[i]?=some a->a=i/\i<64:=λi a h=>by
  have h1:=Z7 h;rw[ZZ0]at h1;rw[List.getElem?_range h1]at h;exact⟨by injection h with h;exact h.symm,h1⟩
 have L:=Uf (E:=rE) (live:=[1,8]) (b:=c62L4b) (h:=[]) (List.range 64) (λ_ a=>chN s 65 a) (λi=>[(1,stI s),(8,I i)]) 6 (λfr=>get fr 2=.bool false) (λk=>rfl)
  (λi a ha hP=>by
   obtain⟨rfl,h64⟩:=hr i a ha;have hlt:decide ((a:Int)<64)=true:=decide_eq_true<|by omega
   have hw:=Zx (n:=a)<|by omega
   obtain⟨fr',h1,h2,_⟩:=ZQj s hs a 65 0 a rfl;rw[hP]at h1;obtain⟨g1,g8⟩:=h2 hP;have h1':Zg rE [1,8,9,10] c62L3b [(1,stI s),(8,I a),(9,I a),(10,.int .i64 0)] []=_:=h1;refine⟨_,by simp only[go_sem,c62L4b,c62L3,hlt,hw,h1',g1,g8,if_true];rfl,?_⟩
   simp only[go_sem])
  (λi a ha hP=>by
   obtain⟨rfl,h64⟩:=hr i a ha;have hlt:decide ((a:Int)<64)=true:=decide_eq_true<|by omega
   obtain⟨fr',h1,_,h2⟩:=ZQj s hs a 65 0 a rfl;rw[hP]at h1;have h1':Zg rE [1,8,9,10] c62L3b [(1,stI s),(8,I a),(9,I a),(10,.int .i64 0)] []=_:=h1;refine⟨_,by simp only[go_sem,c62L4b,c62L3,hlt,h1',ZX2,if_false];rfl,?_⟩
   simp only[go_sem,h2 hP])
  (by
   have e:(List.range 64).length=64:=rfl;have hlt:decide (((64:Nat):Int)<64)=false:=rfl;rw[e];exact⟨_,by simp only[go_sem,c62L4b,hlt];rfl⟩)
 rw[QE]at L;exact L
def ZPN(s:Sta):Bool:=s.ba.all pOk&&(Zu (mgB s.Gc) 0 s.Gc&&(List.range 64).all (λa=>chN s 65 a))
def ZUU(s:Sta)(hs:StS s):pfn rE 62 [stA s]=some (.bool<|ZPN s):=by
 obtain⟨f0,L0,a0,b0⟩:=ZUR s hs;obtain⟨f2,L2,a2,b2⟩:=ZUS s hs;obtain⟨f4,L4,b4⟩:=ZUT s hs;rw[Z5 (f:=62) rfl rfl];unfold ZPN;cases c0:s.ba.all pOk with
 |false=>rw[c0]at L0;simp only[go_sem,c62,c62L0,L0,b0 c0,ZWV,ZX2,if_false]
 |true=>
 rw[c0]at L0;cases c2:Zu (mgB s.Gc) 0 s.Gc with
 |false=>rw[c2]at L2;simp only[go_sem,c62,c62L0,c62L2,L0,a0 c0,L2,b2 c2,ZWV,ZWR,ZX2,if_false,if_true]
 |true=>
 rw[c2]at L2;cases c4:(List.range 64).all (λa=>chN s 65 a)with
 |false=>rw[c4]at L4;simp only[go_sem,c62,c62L0,c62L2,c62L4,L0,a0 c0,L2,a2 c2,L4,b4 c4,ZWR,ZX2,if_false,if_true]
 |true=>rw[c4]at L4;simp only[go_sem,c62,c62L0,c62L2,c62L4,L0,a0 c0,L2,a2 c2,L4,ZWR,if_true]
def itT(s:Sta):Nat->Int->Int
 |0,x=>x
 |n+1,x=>itT s n<|XJ s x
def Zdq(s:Sta):∀n x,itT s (n+1) x=XJ s (itT s n x)
 |0,_=>rfl
 |n+1,x=>Zdq s n<|XJ s x
def Zdh(s:Sta)(m:Nat)(x:Int):∀n,itT s (m+n) x=itT s n (itT s m x)
 |0=>rfl
 |n+1=>by rw[show m+(n+1)=(m+n)+1 by omega,Zdq,Zdh s m x n,Zdq]
def ZdY(s:Sta):∀n x,chN s n x=true↔∃j,j<=n/\itT s j x<0
 |0,x=>by
  unfold chN;rw[ZXn,decide_eq_false_iff_not];exact⟨λh=>⟨0,ZX0 _,by show x<0;omega⟩,λ⟨j,h1,h2⟩=>by
   have:j=0:=by omega
   subst this;have:x<0:=h2;omega⟩
 |n+1,x=>by
  unfold chN;cases hx:decide (x>=0)with
  |false=>
   rw[cond_false];exact⟨λ_=>⟨0,ZXb _,by have:=of_decide_eq_false hx;show x<0;omega⟩,λ_=>rfl⟩
  |true=>
   rw[cond_true,ZdY s n];constructor
   .rintro⟨j,h1,h2⟩;exact⟨j+1,by omega,h2⟩
   .rintro⟨j,h1,h2⟩;cases j with
    |zero=>
     have:x<0:=h2;have:=of_decide_eq_true hx;omega
    |succ j=>exact⟨j,by omega,h2⟩
def ZdZ:∀(l m:List Int),l.Nodup->(∀x∈l,x∈m)->l.length<=m.length
 |[],m,_,_=>ZXb _
 |a::r,m,h,hs=>by
  rw[ZY8]at h;have ha:=hs a<|ZYa ..;have:=ZdZ r (m.erase a) h.2<|λx hx=>(List.mem_erase_of_ne<|by rintro rfl;exact h.1 hx).2 (hs x<|ZYV _ hx)
  rw[List.length_erase_of_mem ha]at this;have hl:0<m.length:=List.length_pos_of_mem ha;rw[ZXr];omega
def least(P:Nat->Prop):∀n,P n->∃m,P m/\∀k,k<m->¬P k:=by
 intro n;induction n using Nat.strongRecOn with
 |_ n ih=>
  intro h;by_cases hc:∃k,k<n/\P k
  .obtain⟨k,h1,h2⟩:=hc;exact ih k h1 h2
  .exact⟨n,h,λk hk hp=>hc ⟨k,hk,hp⟩⟩
def Zez(s:Sta){n:Nat}{x:Int}(h:chN s n x=true):chN s (s.Gc.length+1) x=true:=by
 rw[ZdY]at h⊢;obtain⟨j,_,hj⟩:=h;obtain⟨m,hm,hmin⟩:=least (λj=>itT s j x<0) j hj
 refine⟨m,?_,hm⟩;have hnd:((List.range<|m-1).map (λi=>itT s i x)).Nodup:=by
  rw[List.nodup_iff_pairwise_ne,List.pairwise_map];refine List.Pairwise.imp_of_mem ?_<|List.nodup_iff_pairwise_ne.1 List.nodup_range;intro i k hi hk hne heq;rw[ZYn]at hi hk;rcases Nat.lt_or_gt_of_ne hne with hlt|hlt
  .have h1:itT s (k+(m-k)) x=itT s (i+(m-k)) x:=by rw[Zdh,Zdh,heq]
   rw[show k+(m-k)=m by omega]at h1
   exact hmin (i+(m-k)) (by omega)<|by rw[<-h1];exact hm
  .have h1:itT s (i+(m-i)) x=itT s (k+(m-i)) x:=by rw[Zdh,Zdh,heq]
   rw[show i+(m-i)=m by omega]at h1
   exact hmin (k+(m-i)) (by omega)<|by rw[<-h1];exact hm
 have hsub:∀y∈(List.range<|m-1).map (λi=>itT s i x),y∈s.Gc.map (·.b):=by
  intro y hy;obtain⟨i,hi,rfl⟩:=ZXP.1 hy;rw[ZYn]at hi;have h1:=hmin (i+1)<|by omega
  rw[Zdq]at h1;unfold XJ at h1;cases hf:s.Gc.find? (λp=>p.b==itT s i x)with
  |none=>rw[hf]at h1;exact absurd (by decide) h1
  |some p=>
   have h2:=ZYD hf;have h3:=ZYM hf;rw[<-(by simpa using h2:p.b=itT s i x)]
   exact List.mem_map_of_mem h3
 have:=ZdZ _ _ hnd hsub;rw[ZWQ,ZWQ,ZZ0]at this;omega
def ZQk(p:bf):pOk p=Y2 p:=by
 have w1:ZD 0 (-1) 100000=true:=rfl;have w2:ZD 0 0 100000=true:=rfl;unfold pOk Y2 QM;rw[w1,w2];simp
def ZS4(x:Int):∀(l:List bf)(K:List Int),(l.foldl (λK p=>Qi Vm K p.b) K).any (Vm x)=(K.any (Vm x)||l.any (λq=>Vm x q.b))
 |[],K=>by simp
 |p::r,K=>by
  rw[ZYe,ZS4 x r,ZXR,<-Bool.or_assoc];congr 1;unfold Qi;cases hk:K.any (Vm p.b)with
  |true=>
   rw[cond_true];cases he:Vm x p.b with
   |false=>simp
   |true=>
    have:x=p.b:=eq_of_beq he;rw[this,hk];simp
  |false=>rw[cond_false,List.any_append];simp
def ZS5(l:List bf):Zu (mgB l) 0 l=UB l:=by
 unfold UB;apply ZOY;intro i x;unfold mgB mgS QV;rw[ZQk,ZS4,ZY1,ZWZ,ZP0];congr 1;apply ZOn;intro q _;unfold Vm;rw[ZOp]
def ZUV{l:List bf}(h:UB l=true):∀p∈l,Y2 p=true:=by
 rw[<-ZS5]at h;unfold mgB at h;rw[ZOX,ZWT,QE]at h;intro p hp;rw[<-ZQk];exact ZXl.1 h.1 p hp
def ZUW(s:Sta)(hm:s.Gc.length<=64):ZPN s=WK s:=by
 unfold ZPN WK;rw[ZS5,show s.ba.all pOk=s.ba.all Y2 from ZOn λp _=>ZQk p]
 cases hM:UB s.Gc with
 |false=>simp
 |true=>
  rw[ZWR,ZWR];congr 1;have hp:=ZUV hM;rw[ZXq,ZXl,ZXl];constructor
  .intro h p hpm;have h1:=hp p hpm;unfold Y2 QM ZD at h1;simp only[ZWT,decide_eq_true_eq]at h1;have h2:=h p.b.toNat (by rw[ZYn];omega)
   rw[show((p.b.toNat:Nat):Int)=p.b by omega]at h2
   exact Zez s h2
  .intro h a ha;rw[ZYn]at ha;cases hf:s.Gc.find? (λp=>p.b==(a:Int))with
   |none=>
    rw[ZdY];refine⟨1,by omega,?_⟩
    show XJ s a<0
    unfold XJ;rw[hf];decide
   |some p=>
    have h2:=ZYD hf;have h3:=h p<|ZYM hf;have h4:p.b=(a:Int):=by simpa using h2
    rw[h4,ZdY]at h3;obtain⟨j,h5,h6⟩:=h3;rw[ZdY];exact⟨j,by omega,h6⟩
def ZUX(s:Sta)(hs:StS s)(hm:s.Gc.length<=64):pfn rE 62 [stA s]=some (.bool<|WK s):=by rw[ZUU s hs,ZUW s hm]
structure StR(s:Sta):Prop extends StE s where
 rn:∀x∈s.Fa,∀n∈x.bk.l,n.Lang.size<=1000000/\n.Text.size<=1000000
 sn:∀x∈s.Gm,∀n∈x.bk.l,n.Lang.size<=1000000/\n.Text.size<=1000000
 mg:s.Gc.length<=64
def rgR(x:Gk):Bool:=ZD x.bh 0 63&&(ZD x.Ld (-1) 100000&&(Jp x.bk.l x.bk.ex&&(Q9 {Jt x with bq:=1})))
def ZUY(x:Gk):rgR x=Vo x:=by
 have w:ZD 0 0 100000=true:=rfl;unfold rgR Vo QM;rw[w];simp[ZY6]
def ZUZ(s:Sta)(hs:StR s):∃fr',Zg rE [1,3] c10L0b [(1,stI s),(3,.int .i64 0)] []=some (if s.Fa.all rgR=true then .exit 0 else .ret,fr',[])/\
 (s.Fa.all rgR=true->get fr' 1=stI s)/\(s.Fa.all rgR=false->get fr' 2=.bool false):=by
 have L:=QT (E:=rE) (live:=[1,3]) (b:=c10L0b) (h:=[]) s.Fa (λ_ x=>rgR x) (λi=>[(1,stI s),(3,I i)]) 0 (λfr=>get fr 1=stI s) (λfr=>get fr 2=.bool false) (λk=>rfl)
  (λi x hx hP=>by
   have hg:(s.Fa.map Gk.enc)[i]?=some (.agg [.str x.Id,I x.bq,I x.bh,.isl false x.Ring.ex 2<|x.Ring.l.map Pt.enc,.isl false x.bk.ex 3<|x.bk.l.map Nm.enc,I x.Ld]):=Z6 (f:=Gk.enc) hx;have hlt:=Zh<|Z7 hx;have hm:=ZXk hx;have hw:=Zx (n:=i) (by have:=Z7 hx;have:=hs.toStE.sizes.regions;omega)
   have h0:=ZOa x.bh;have h1:=ZOh x.Ld<|-1;have h2:=ZPL x.bk.l x.bk.ex (hs.toStE.regions x hm).1 (hs.rn x hm);have h30:=ZOq {Jt x with bq:=1} ⟨⟨by simp[Jt],by simp[Jt],(hs.toStE.regions x hm).2.1,by simp[Jt],(hs.toStE.regions x hm).2.2,ZXs rfl,ZXs rfl⟩,ZOu _ rfl⟩<|by simp
   have h3:pfn rE 52 [.agg [I 1,I 0,I x.bq,I 0,I 0,.str x.Id,.str emp,.str emp,.isl false false 1 [],.isl false false 3 [],I 0,.str emp,I 0,I 0,I 0,I 0,.isl false x.Ring.ex 2<|x.Ring.l.map Pt.enc,.isl false false 7 []]]=some (.bool<|Q9 {Jt x with bq:=1}):=h30
   unfold rgR at hP;simp only[ZWT]at hP;obtain⟨p0,p1,p2,p3⟩:=hP;refine⟨_,by simp only[go_sem,c10L0b,hg,hlt,hw,h0,h1,h2,h3,p0,p1,p2,p3,ZWQ,ZWS];rfl,?_⟩
   simp only[go_sem])
  (λi x hx hP=>by
   have hg:(s.Fa.map Gk.enc)[i]?=some (.agg [.str x.Id,I x.bq,I x.bh,.isl false x.Ring.ex 2<|x.Ring.l.map Pt.enc,.isl false x.bk.ex 3<|x.bk.l.map Nm.enc,I x.Ld]):=Z6 (f:=Gk.enc) hx;have hlt:=Zh<|Z7 hx;have hm:=ZXk hx;have h0:=ZOa x.bh;have h1:=ZOh x.Ld<|-1;have h2:=ZPL x.bk.l x.bk.ex (hs.toStE.regions x hm).1 (hs.rn x hm);have h30:=ZOq {Jt x with bq:=1} ⟨⟨by simp[Jt],by simp[Jt],(hs.toStE.regions x hm).2.1,by simp[Jt],(hs.toStE.regions x hm).2.2,ZXs rfl,ZXs rfl⟩,ZOu _ rfl⟩<|by simp
   have h3:pfn rE 52 [.agg [I 1,I 0,I x.bq,I 0,I 0,.str x.Id,.str emp,.str emp,.isl false false 1 [],.isl false false 3 [],I 0,.str emp,I 0,I 0,I 0,I 0,.isl false x.Ring.ex 2<|x.Ring.l.map Pt.enc,.isl false false 7 []]]=some (.bool<|Q9 {Jt x with bq:=1}):=h30
   unfold rgR at hP;cases p0:ZD x.bh 0 63 with
   |false=>
    refine⟨_,by simp only[go_sem,c10L0b,hg,hlt,h0,h1,h2,h3,p0,ZWQ,ZWS,ZWU];rfl,?_⟩
    simp only[go_sem]
   |true=>
   cases p1:ZD x.Ld (-1) 100000 with
   |false=>
    refine⟨_,by simp only[go_sem,c10L0b,hg,hlt,h0,h1,h2,h3,p0,p1,ZWQ,ZWS,ZWU];rfl,?_⟩
    simp only[go_sem]
   |true=>
   cases p2:Jp x.bk.l x.bk.ex with
   |false=>
    refine⟨_,by simp only[go_sem,c10L0b,hg,hlt,h0,h1,h2,h3,p0,p1,p2,ZWQ,ZWS,ZWU];rfl,?_⟩
    simp only[go_sem]
   |true=>
   rw[p0,p1,p2,ZWR,ZWR,ZWR]at hP;refine⟨_,by simp only[go_sem,c10L0b,hg,hlt,h0,h1,h2,h3,p0,p1,p2,hP,ZWQ,ZWS,ZWU];rfl,?_⟩
   simp only[go_sem])
  (⟨_,by simp only[go_sem,c10L0b,ZG,ZWQ];rfl,by simp only[go_sem]⟩)
 rw[QE]at L;exact L
def stR(x:By):Bool:=ZD x.bh 0 63&&(ZD x.Ld (-1) 100000&&(Jp x.bk.l x.bk.ex&&(Q9 {Ju x with bq:=2})))
def ZV0(x:By):stR x=Vp x:=by
 have w:ZD 0 0 100000=true:=rfl;unfold stR Vp QM;rw[w];simp[ZY6]
def ZV1(s:Sta)(hs:StR s):∃fr',Zg rE [1,5] c10L1b [(1,stI s),(5,.int .i64 0)] []=some (if s.Gm.all stR=true then .exit 2 else .ret,fr',[])/\
 (s.Gm.all stR=true->get fr' 1=stI s)/\(s.Gm.all stR=false->get fr' 2=.bool false):=by
 have L:=QT (E:=rE) (live:=[1,5]) (b:=c10L1b) (h:=[]) s.Gm (λ_ x=>stR x) (λi=>[(1,stI s),(5,I i)]) 2 (λfr=>get fr 1=stI s) (λfr=>get fr 2=.bool false) (λk=>rfl)
  (λi x hx hP=>by
   have hg:(s.Gm.map By.enc)[i]?=some (.agg [.str x.Id,I x.bh,.isl false x.Line.ex 2<|x.Line.l.map Pt.enc,.isl false x.bk.ex 3<|x.bk.l.map Nm.enc,I x.Ld]):=Z6 (f:=By.enc) hx;have hlt:=Zh<|Z7 hx;have hm:=ZXk hx;have hw:=Zx (n:=i) (by have:=Z7 hx;have:=hs.toStE.sizes.streets;omega)
   have h0:=ZOa x.bh;have h1:=ZOh x.Ld<|-1;have h2:=ZPL x.bk.l x.bk.ex (hs.toStE.streets x hm).1 (hs.sn x hm);have h30:=ZOq {Ju x with bq:=2} ⟨⟨by simp[Ju],by simp[Ju],(hs.toStE.streets x hm).2.1,by simp[Ju],(hs.toStE.streets x hm).2.2,ZXs rfl,ZXs rfl⟩,ZOu _ rfl⟩<|by simp
   have h3:pfn rE 52 [.agg [I 2,I 0,I 0,I 0,I 0,.str x.Id,.str emp,.str emp,.isl false false 1 [],.isl false false 3 [],I 0,.str emp,I 0,I 0,I 0,I 0,.isl false x.Line.ex 2<|x.Line.l.map Pt.enc,.isl false false 7 []]]=some (.bool<|Q9 {Ju x with bq:=2}):=h30
   unfold stR at hP;simp only[ZWT]at hP;obtain⟨p0,p1,p2,p3⟩:=hP;refine⟨_,by simp only[go_sem,c10L1b,hg,hlt,hw,h0,h1,h2,h3,p0,p1,p2,p3,ZWQ,ZWS];rfl,?_⟩
   simp only[go_sem])
  (λi x hx hP=>by
   have hg:(s.Gm.map By.enc)[i]?=some (.agg [.str x.Id,I x.bh,.isl false x.Line.ex 2<|x.Line.l.map Pt.enc,.isl false x.bk.ex 3<|x.bk.l.map Nm.enc,I x.Ld]):=Z6 (f:=By.enc) hx;have hlt:=Zh<|Z7 hx;have hm:=ZXk hx;have h0:=ZOa x.bh;have h1:=ZOh x.Ld<|-1;have h2:=ZPL x.bk.l x.bk.ex (hs.toStE.streets x hm).1 (hs.sn x hm);have h30:=ZOq {Ju x with bq:=2} ⟨⟨by simp[Ju],by simp[Ju],(hs.toStE.streets x hm).2.1,by simp[Ju],(hs.toStE.streets x hm).2.2,ZXs rfl,ZXs rfl⟩,ZOu _ rfl⟩<|by simp
   have h3:pfn rE 52 [.agg [I 2,I 0,I 0,I 0,I 0,.str x.Id,.str emp,.str emp,.isl false false 1 [],.isl false false 3 [],I 0,.str emp,I 0,I 0,I 0,I 0,.isl false x.Line.ex 2<|x.Line.l.map Pt.enc,.isl false false 7 []]]=some (.bool<|Q9 {Ju x with bq:=2}):=h30
   unfold stR at hP;cases p0:ZD x.bh 0 63 with
   |false=>
    refine⟨_,by simp only[go_sem,c10L1b,hg,hlt,h0,h1,h2,h3,p0,ZWQ,ZWS,ZWU];rfl,?_⟩
    simp only[go_sem]
   |true=>
   cases p1:ZD x.Ld (-1) 100000 with
   |false=>
    refine⟨_,by simp only[go_sem,c10L1b,hg,hlt,h0,h1,h2,h3,p0,p1,ZWQ,ZWS,ZWU];rfl,?_⟩
    simp only[go_sem]
   |true=>
   cases p2:Jp x.bk.l x.bk.ex with
   |false=>
    refine⟨_,by simp only[go_sem,c10L1b,hg,hlt,h0,h1,h2,h3,p0,p1,p2,ZWQ,ZWS,ZWU];rfl,?_⟩
    simp only[go_sem]
   |true=>
   rw[p0,p1,p2,ZWR,ZWR,ZWR]at hP;refine⟨_,by simp only[go_sem,c10L1b,hg,hlt,h0,h1,h2,h3,p0,p1,p2,hP,ZWQ,ZWS,ZWU];rfl,?_⟩
   simp only[go_sem])
  (⟨_,by simp only[go_sem,c10L1b,ZG,ZWQ];rfl,by simp only[go_sem]⟩)
 rw[QE]at L;exact L
def buR(x:Ev):Bool:=ZD x.bh 0 63&&(ZD x.Ld (-1) 100000&&(Q9 {Jv x with bq:=5}))
def ZV2(x:Ev):buR x=Vq x:=by
 have w:ZD 0 0 100000=true:=rfl;unfold buR Vq QM;rw[w];simp[ZY6]
def ZV3(s:Sta)(hs:StR s):∃fr',Zg rE [1,7] c10L2b [(1,stI s),(7,.int .i64 0)] []=some (if s.Bt.all buR=true then .exit 4 else .ret,fr',[])/\
 (s.Bt.all buR=true->get fr' 1=stI s)/\(s.Bt.all buR=false->get fr' 2=.bool false):=by
 have L:=QT (E:=rE) (live:=[1,7]) (b:=c10L2b) (h:=[]) s.Bt (λ_ x=>buR x) (λi=>[(1,stI s),(7,I i)]) 4 (λfr=>get fr 1=stI s) (λfr=>get fr 2=.bool false) (λk=>rfl)
  (λi x hx hP=>by
   have hg:(s.Bt.map Ev.enc)[i]?=some (.agg [.str x.Id,I x.bh,.isl false x.Ring.ex 2<|x.Ring.l.map Pt.enc,I x.Ld]):=Z6 (f:=Ev.enc) hx;have hlt:=Zh<|Z7 hx;have hm:=ZXk hx;have hw:=Zx (n:=i) (by have:=Z7 hx;have:=hs.toStE.sizes.buildings;omega)
   have h0:=ZOa x.bh;have h1:=ZOh x.Ld<|-1;have h20:=ZOq {Jv x with bq:=5} ⟨⟨by simp[Jv],by simp[Jv],(hs.toStE.buildings x hm).1,by simp[Jv],(hs.toStE.buildings x hm).2,ZXs rfl,ZXs rfl⟩,ZOu _ rfl⟩<|by simp
   have h2:pfn rE 52 [.agg [I 5,I 0,I 0,I 0,I 0,.str x.Id,.str emp,.str emp,.isl false false 1 [],.isl false false 3 [],I 0,.str emp,I 0,I 0,I 0,I 0,.isl false x.Ring.ex 2<|x.Ring.l.map Pt.enc,.isl false false 7 []]]=some (.bool<|Q9 {Jv x with bq:=5}):=h20
   unfold buR at hP;simp only[ZWT]at hP;obtain⟨p0,p1,p2⟩:=hP;refine⟨_,by simp only[go_sem,c10L2b,hg,hlt,hw,h0,h1,h2,p0,p1,p2,ZWQ,ZWS];rfl,?_⟩
   simp only[go_sem])
  (λi x hx hP=>by
   have hg:(s.Bt.map Ev.enc)[i]?=some (.agg [.str x.Id,I x.bh,.isl false x.Ring.ex 2<|x.Ring.l.map Pt.enc,I x.Ld]):=Z6 (f:=Ev.enc) hx;have hlt:=Zh<|Z7 hx;have hm:=ZXk hx;have h0:=ZOa x.bh;have h1:=ZOh x.Ld<|-1;have h20:=ZOq {Jv x with bq:=5} ⟨⟨by simp[Jv],by simp[Jv],(hs.toStE.buildings x hm).1,by simp[Jv],(hs.toStE.buildings x hm).2,ZXs rfl,ZXs rfl⟩,ZOu _ rfl⟩<|by simp
   have h2:pfn rE 52 [.agg [I 5,I 0,I 0,I 0,I 0,.str x.Id,.str emp,.str emp,.isl false false 1 [],.isl false false 3 [],I 0,.str emp,I 0,I 0,I 0,I 0,.isl false x.Ring.ex 2<|x.Ring.l.map Pt.enc,.isl false false 7 []]]=some (.bool<|Q9 {Jv x with bq:=5}):=h20
   unfold buR at hP;cases p0:ZD x.bh 0 63 with
   |false=>
    refine⟨_,by simp only[go_sem,c10L2b,hg,hlt,h0,h1,h2,p0,ZWQ,ZWS,ZWU];rfl,?_⟩
    simp only[go_sem]
   |true=>
   cases p1:ZD x.Ld (-1) 100000 with
   |false=>
    refine⟨_,by simp only[go_sem,c10L2b,hg,hlt,h0,h1,h2,p0,p1,ZWQ,ZWS,ZWU];rfl,?_⟩
    simp only[go_sem]
   |true=>
   rw[p0,p1,ZWR,ZWR]at hP;refine⟨_,by simp only[go_sem,c10L2b,hg,hlt,h0,h1,h2,p0,p1,hP,ZWQ,ZWS,ZWU];rfl,?_⟩
   simp only[go_sem])
  (⟨_,by simp only[go_sem,c10L2b,ZG,ZWQ];rfl,by simp only[go_sem]⟩)
 rw[QE]at L;exact L
def ZPp(s:Sta)(i:Nat)(x:Ga):Bool:=Zu (afS s i x.After.l) 0 x.After.l&&ZPb x
def ZV4(s:Sta)(hs:StR s):∃fr',Zg rE [1,9] c10L3b [(1,stI s),(9,.int .i64 0)] []=some (if Zu (ZOD s) 0 s.Bc=true then .exit 6 else .ret,fr',[])/\
 (Zu (ZOD s) 0 s.Bc=true->get fr' 1=stI s)/\(Zu (ZOD s) 0 s.Bc=false->get fr' 2=.bool false):=by
 exact QT (E:=rE) (live:=[1,9]) (b:=c10L3b) (h:=[]) s.Bc (ZOD s) (λi=>[(1,stI s),(9,I i)]) 6 (λfr=>get fr 1=stI s) (λfr=>get fr 2=.bool false) (λk=>rfl)
  (λi x hx hP=>by
   have hg:(s.Bc.map Ga.enc)[i]?=some (.agg [.str x.Id,.str x.Ev,.str x.By,I x.bh,I x.An.N,.str x.An.bm,I x.An.Num,I x.An.Den,I x.bg.X,I x.bg.Y,I x.From,I x.Ld,.isl false x.After.ex 1<|x.After.l.map encS,I x.Why,I x.bv,.str x.Veil]):=Z6 (f:=Ga.enc) hx;have hlt:=Zh<|Z7 hx;have hm:=ZXk hx;have hd:=hs.toStE.doors x hm;have hw:=Zx (n:=i) (by have:=Z7 hx;have:=hs.toStE.sizes.doors;omega)
   have h0:=ZOa x.bh;have h1:=ZOh x.Ld<|-1;have h2:=ZOh x.From 0;have h3:pfn rE 65 [stA s,I i]=some (.bool<|ZPp s i x):=ZRS s hs.toStE.sizes i x hx hd;have h4:pfn rE 66 [stA s,.agg [.str x.Id,.str x.Ev,.str x.By,I x.bh,I x.An.N,.str x.An.bm,I x.An.Num,I x.An.Den,I x.bg.X,I x.bg.Y,I x.From,I x.Ld,.isl false x.After.ex 1<|x.After.l.map encS,I x.Why,I x.bv,.str x.Veil]]=some (.bool<|ZOR s x):=ZRQ s hs.toStE.sizes x hd;have h5:pfn rE 67 [.agg [.str x.Id,.str x.Ev,.str x.By,I x.bh,I x.An.N,.str x.An.bm,I x.An.Num,I x.An.Den,I x.bg.X,I x.bg.Y,I x.From,I x.Ld,.isl false x.After.ex 1<|x.After.l.map encS,I x.Why,I x.bv,.str x.Veil]]=some (.bool<|ZOC x):=ZRP x hd;have hP':(ZD x.bh 0 63&&(ZD x.Ld (-1) 100000&&(ZD x.From 0 100000&&(ZPp s i x&&(bif Z3 x.Veil emp then ZOR s x else ZOC x)))))=true:=hP;simp only[ZWT]at hP';obtain⟨p0,p1,p2,p3,p4⟩:=hP';cases v:Z3 x.Veil emp with
   |true=>
    rw[v,cond_true]at p4;refine⟨_,by simp only[go_sem,c10L3b,hg,hlt,hw,h0,h1,h2,h3,h4,h5,ZWQ,ZWS,ZWU,p0,p1,p2,p3,v,p4];rfl,?_⟩
    simp only[go_sem]
   |false=>
    rw[v,cond_false]at p4;refine⟨_,by simp only[go_sem,c10L3b,hg,hlt,hw,h0,h1,h2,h3,h4,h5,ZWQ,ZWS,ZWU,p0,p1,p2,p3,v,p4];rfl,?_⟩
    simp only[go_sem])
  (λi x hx hP=>by
   have hg:(s.Bc.map Ga.enc)[i]?=some (.agg [.str x.Id,.str x.Ev,.str x.By,I x.bh,I x.An.N,.str x.An.bm,I x.An.Num,I x.An.Den,I x.bg.X,I x.bg.Y,I x.From,I x.Ld,.isl false x.After.ex 1<|x.After.l.map encS,I x.Why,I x.bv,.str x.Veil]):=Z6 (f:=Ga.enc) hx;have hlt:=Zh<|Z7 hx;have hm:=ZXk hx;have hd:=hs.toStE.doors x hm;have hw:=Zx (n:=i) (by have:=Z7 hx;have:=hs.toStE.sizes.doors;omega)
   have h0:=ZOa x.bh;have h1:=ZOh x.Ld<|-1;have h2:=ZOh x.From 0;have h3:pfn rE 65 [stA s,I i]=some (.bool<|ZPp s i x):=ZRS s hs.toStE.sizes i x hx hd;have h4:pfn rE 66 [stA s,.agg [.str x.Id,.str x.Ev,.str x.By,I x.bh,I x.An.N,.str x.An.bm,I x.An.Num,I x.An.Den,I x.bg.X,I x.bg.Y,I x.From,I x.Ld,.isl false x.After.ex 1<|x.After.l.map encS,I x.Why,I x.bv,.str x.Veil]]=some (.bool<|ZOR s x):=ZRQ s hs.toStE.sizes x hd;have h5:pfn rE 67 [.agg [.str x.Id,.str x.Ev,.str x.By,I x.bh,I x.An.N,.str x.An.bm,I x.An.Num,I x.An.Den,I x.bg.X,I x.bg.Y,I x.From,I x.Ld,.isl false x.After.ex 1<|x.After.l.map encS,I x.Why,I x.bv,.str x.Veil]]=some (.bool<|ZOC x):=ZRP x hd;have hP':(ZD x.bh 0 63&&(ZD x.Ld (-1) 100000&&(ZD x.From 0 100000&&(ZPp s i x&&(bif Z3 x.Veil emp then ZOR s x else ZOC x)))))=false:=hP;cases p0:ZD x.bh 0 63 with
   |false=>
    refine⟨_,by simp only[go_sem,c10L3b,hg,hlt,hw,h0,h1,h2,h3,h4,h5,ZWQ,ZWS,ZWU,p0];rfl,?_⟩
    simp only[go_sem]
   |true=>
   cases p1:ZD x.Ld (-1) 100000 with
   |false=>
    refine⟨_,by simp only[go_sem,c10L3b,hg,hlt,hw,h0,h1,h2,h3,h4,h5,ZWQ,ZWS,ZWU,p0,p1];rfl,?_⟩
    simp only[go_sem]
   |true=>
   cases p2:ZD x.From 0 100000 with
   |false=>
    refine⟨_,by simp only[go_sem,c10L3b,hg,hlt,hw,h0,h1,h2,h3,h4,h5,ZWQ,ZWS,ZWU,p0,p1,p2];rfl,?_⟩
    simp only[go_sem]
   |true=>
   cases p3:ZPp s i x with
   |false=>
    refine⟨_,by simp only[go_sem,c10L3b,hg,hlt,hw,h0,h1,h2,h3,h4,h5,ZWQ,ZWS,ZWU,p0,p1,p2,p3];rfl,?_⟩
    simp only[go_sem]
   |true=>
   rw[p0,p1,p2,p3,ZWR,ZWR,ZWR,ZWR]at hP';cases v:Z3 x.Veil emp with
   |true=>
    rw[v,cond_true]at hP';refine⟨_,by simp only[go_sem,c10L3b,hg,hlt,hw,h0,h1,h2,h3,h4,h5,ZWQ,ZWS,ZWU,p0,p1,p2,p3,v,hP'];rfl,?_⟩
    simp only[go_sem]
   |false=>
    rw[v,cond_false]at hP';refine⟨_,by simp only[go_sem,c10L3b,hg,hlt,hw,h0,h1,h2,h3,h4,h5,ZWQ,ZWS,ZWU,p0,p1,p2,p3,v,hP'];rfl,?_⟩
    simp only[go_sem])
  (⟨_,by simp only[go_sem,c10L3b,ZG,ZWQ];rfl,by simp only[go_sem]⟩)
def uwB(x:be)(d:Bool):Bool:=bif x.Ld==-1 then(x.Why==0&&d)else(x.Why==12||x.Why==11)
def ZOv(s:Sta)(x:be):Bool:=ZD x.Ld (-1) 100000&&(ZD x.From 0 100000&&(Q9 {Vn x with bq:=7}&&(!decide (Zn s x.Ga<0)&&uwB x (QN s (Zn s x.Ga)==-1))))
def ZV5(s:Sta)(x:be):ZOv s x=Vs s x:=by
 have w:ZD 0 0 63=true:=rfl;unfold ZOv Vs Jw uwB QM;rw[w];simp only[bne];cases decide (Zn s x.Ga<0)<;>cases ZD x.Ld (-1) 100000<;>cases ZD x.From 0 100000<;>cases Q9 {Vn x with bq:=7}<;>cases(x.Ld==-1)<;>cases(x.Why==0)<;>cases(x.Why==12)<;>cases(x.Why==11)<;>cases(QN s (Zn s x.Ga)==-1)<;>rfl
def ZV6(s:Sta)(hs:StR s):∃fr',Zg rE [1,11] c10L4b [(1,stI s),(11,.int .i64 0)] []=some (if s.Nk.all (ZOv s)=true then .exit 8 else .ret,fr',[])/\(s.Nk.all (ZOv s)=false->get fr' 2=.bool false):=by
 have L:=Uf (E:=rE) (live:=[1,11]) (b:=c10L4b) (h:=[]) s.Nk (λ_ x=>ZOv s x) (λi=>[(1,stI s),(11,I i)]) 8 (λfr=>get fr 2=.bool false) (λk=>rfl)
  (λi x hx hP=>by
   have hg:(s.Nk.map be.enc)[i]?=some (.agg [.str x.Id,.str x.Ga,.str x.Text,I x.From,I x.Ld,I x.Why]):=Z6 (f:=be.enc) hx;have hlt:=Zh<|Z7 hx;have hm:=ZXk hx;obtain⟨z1,z2,z3⟩:=hs.toStE.units x hm;have hw:=Zx (n:=i) (by have:=Z7 hx;have:=hs.toStE.sizes.units;omega)
   have h0:=ZOh x.Ld<|-1;have h1:=ZOh x.From 0;have h20:=ZOq {Vn x with bq:=7} ⟨⟨by simp[Vn],by simp[Vn],by simp[Vn],by simp[Vn],z1,z2,z3⟩,ZOu _ rfl⟩<|by simp
   have h2:pfn rE 52 [.agg [I 7,I 0,I 0,I 0,I 0,.str x.Id,.str x.Ga,.str x.Text,.isl false false 1 [],.isl false false 3 [],I 0,.str emp,I 0,I 0,I 0,I 0,.isl false false 2 [],.isl false false 7 []]]=some (.bool<|Q9 {Vn x with bq:=7}):=h20
   have h3:=ZPo s hs.toStE.sizes x.Ga;have n0:(x.Why != 0) = !(x.Why==0):=rfl;have n11:(x.Why != 11) = !(x.Why==11):=rfl;have n12:(x.Why != 12) = !(x.Why==12):=rfl;have ne:(x.Ld != -1) = !(x.Ld==-1):=rfl;unfold ZOv at hP;simp only[ZWT,ZXn]at hP;obtain⟨p0,p1,p2,p3,p4⟩:=hP;have hneg:decide (Zn s x.Ga>=0)=true:=by have:=of_decide_eq_false p3;exact decide_eq_true<|by omega
   obtain⟨j,d,hj,hdj⟩:=ZPM _ s.Bc hneg;have hj':Zn s x.Ga=(j:Int):=hj;have hgd:=Z6 (f:=Ga.enc) hdj;rw[show Ga.enc d=Zo d from rfl]at hgd
   have ed:QN s (j:Int)=d.Ld:=by unfold QN;rw[ZXI,hdj]
   have nd:(d.Ld != -1) = !(d.Ld==-1):=rfl;rw[hj']at h3 p3 p4;rw[ed]at p4;unfold Zo at hgd;unfold uwB at p4;cases q:(x.Ld==-1)with
   |true=>
    rw[q,cond_true,ZWT]at p4;refine⟨_,by simp only[go_sem,c10L4b,hg,hlt,hw,h0,h1,h2,h3,ZWQ,ZWS,ZWU,n0,n11,n12,ne,nd,hgd,p0,p1,p2,p3,q,p4.1,p4.2];rfl,?_⟩
    simp only[go_sem]
   |false=>
    rw[q,cond_false]at p4;cases y:(x.Why==12)with
    |true=>
     refine⟨_,by simp only[go_sem,c10L4b,hg,hlt,hw,h0,h1,h2,h3,ZWQ,ZWS,ZWU,n0,n11,n12,ne,nd,hgd,p0,p1,p2,p3,q,y];rfl,?_⟩
     simp only[go_sem]
    |false=>
     rw[y,ZWZ]at p4;refine⟨_,by simp only[go_sem,c10L4b,hg,hlt,hw,h0,h1,h2,h3,ZWQ,ZWS,ZWU,n0,n11,n12,ne,nd,hgd,p0,p1,p2,p3,q,y,p4];rfl,?_⟩
     simp only[go_sem])
  (λi x hx hP=>by
   have hg:(s.Nk.map be.enc)[i]?=some (.agg [.str x.Id,.str x.Ga,.str x.Text,I x.From,I x.Ld,I x.Why]):=Z6 (f:=be.enc) hx;have hlt:=Zh<|Z7 hx;have hm:=ZXk hx;obtain⟨z1,z2,z3⟩:=hs.toStE.units x hm;have hw:=Zx (n:=i) (by have:=Z7 hx;have:=hs.toStE.sizes.units;omega)
   have h0:=ZOh x.Ld<|-1;have h1:=ZOh x.From 0;have h20:=ZOq {Vn x with bq:=7} ⟨⟨by simp[Vn],by simp[Vn],by simp[Vn],by simp[Vn],z1,z2,z3⟩,ZOu _ rfl⟩<|by simp
   have h2:pfn rE 52 [.agg [I 7,I 0,I 0,I 0,I 0,.str x.Id,.str x.Ga,.str x.Text,.isl false false 1 [],.isl false false 3 [],I 0,.str emp,I 0,I 0,I 0,I 0,.isl false false 2 [],.isl false false 7 []]]=some (.bool<|Q9 {Vn x with bq:=7}):=h20
   have h3:=ZPo s hs.toStE.sizes x.Ga;have n0:(x.Why != 0) = !(x.Why==0):=rfl;have n11:(x.Why != 11) = !(x.Why==11):=rfl;have n12:(x.Why != 12) = !(x.Why==12):=rfl;have ne:(x.Ld != -1) = !(x.Ld==-1):=rfl;unfold ZOv at hP;cases p0:ZD x.Ld (-1) 100000 with
   |false=>
    refine⟨_,by simp only[go_sem,c10L4b,hg,hlt,hw,h0,h1,h2,h3,ZWQ,ZWS,ZWU,n0,n11,n12,ne,p0];rfl,?_⟩
    simp only[go_sem]
   |true=>
   cases p1:ZD x.From 0 100000 with
   |false=>
    refine⟨_,by simp only[go_sem,c10L4b,hg,hlt,hw,h0,h1,h2,h3,ZWQ,ZWS,ZWU,n0,n11,n12,ne,p0,p1];rfl,?_⟩
    simp only[go_sem]
   |true=>
   cases p2:Q9 {Vn x with bq:=7}with
   |false=>
    refine⟨_,by simp only[go_sem,c10L4b,hg,hlt,hw,h0,h1,h2,h3,ZWQ,ZWS,ZWU,n0,n11,n12,ne,p0,p1,p2];rfl,?_⟩
    simp only[go_sem]
   |true=>
   cases p3:decide (Zn s x.Ga<0)with
   |true=>
    refine⟨_,by simp only[go_sem,c10L4b,hg,hlt,hw,h0,h1,h2,h3,ZWQ,ZWS,ZWU,n0,n11,n12,ne,p0,p1,p2,p3];rfl,?_⟩
    simp only[go_sem]
   |false=>
   have hneg:decide (Zn s x.Ga>=0)=true:=by have:=of_decide_eq_false p3;exact decide_eq_true<|by omega
   obtain⟨j,d,hj,hdj⟩:=ZPM _ s.Bc hneg;have hj':Zn s x.Ga=(j:Int):=hj;have hgd:=Z6 (f:=Ga.enc) hdj;rw[show Ga.enc d=Zo d from rfl]at hgd
   have ed:QN s (j:Int)=d.Ld:=by unfold QN;rw[ZXI,hdj]
   have nd:(d.Ld != -1) = !(d.Ld==-1):=rfl;rw[p0,p1,p2,p3,ZWU,ZWR,ZWR,ZWR,ZWR,hj',ed]at hP;rw[hj']at h3 p3;unfold Zo at hgd;unfold uwB at hP;cases q:(x.Ld==-1)with
   |true=>
    rw[q,cond_true]at hP;cases y:(x.Why==0)with
    |false=>
     refine⟨_,by simp only[go_sem,c10L4b,hg,hlt,hw,h0,h1,h2,h3,ZWQ,ZWS,ZWU,n0,n11,n12,ne,nd,hgd,p0,p1,p2,p3,q,y];rfl,?_⟩
     simp only[go_sem]
    |true=>
     rw[y,ZWR]at hP;refine⟨_,by simp only[go_sem,c10L4b,hg,hlt,hw,h0,h1,h2,h3,ZWQ,ZWS,ZWU,n0,n11,n12,ne,nd,hgd,p0,p1,p2,p3,q,y,hP];rfl,?_⟩
     simp only[go_sem]
   |false=>
    rw[q,cond_false,ZZ4]at hP;refine⟨_,by simp only[go_sem,c10L4b,hg,hlt,hw,h0,h1,h2,h3,ZWQ,ZWS,ZWU,n0,n11,n12,ne,nd,hgd,p0,p1,p2,p3,q,hP.1,hP.2];rfl,?_⟩
    simp only[go_sem])
  (⟨_,by simp only[go_sem,c10L4b,ZG,ZWQ];rfl⟩)
 rw[QE]at L;exact L
def ZQl(s:Sta)(hs:StR s):pfn rE 10 [stA s]=some (.bool<|Jx s):=by
 have hz:=hs.toStE.sizes;have e:Jx s=(Jq (Qp s)&&(WK s&&(Wh s.Bc&&(s.Fa.all rgR&&(s.Gm.all stR&&(s.Bt.all buR&&(Zu (ZOD s) 0 s.Bc&&s.Nk.all (ZOv s)))))))):=by
  unfold Jx;rw[show s.Fa.all Vo=s.Fa.all rgR from ZOn λx _=>(ZUY x).symm,show s.Gm.all Vp=s.Gm.all stR from ZOn λx _=>(ZV0 x).symm,
   show s.Bt.all Vq=s.Bt.all buR from ZOn λx _=>(ZV2 x).symm,show s.Nk.all (Vs s)=s.Nk.all (ZOv s)from ZOn λx _=>(ZV5 s x).symm,
   show Zu (Vr s) 0 s.Bc=Zu (ZOD s) 0 s.Bc from ZOY _ _ λi x=>(ZUw s i x).symm]
  cases Jq (Qp s)<;>cases WK s<;>cases Wh s.Bc<;>simp
 have hu:=ZUQ s hz;have hp:=ZUX s hz hs.mg;have hn:=ZUx s hz;rw[ZS1]at hn;obtain⟨f0,L0,a0,b0⟩:=ZUZ s hs;obtain⟨f1,L1,a1,b1⟩:=ZV1 s hs;obtain⟨f2,L2,a2,b2⟩:=ZV3 s hs;obtain⟨f3,L3,a3,b3⟩:=ZV4 s hs;obtain⟨f4,L4,b4⟩:=ZV6 s hs;rw[Z5 (f:=10) rfl rfl,e];cases c0:Jq (Qp s)with
 |false=>simp only[go_sem,c10,hu,hp,hn,c0,ZWS,ZWU,ZWR,ZWV,ZX2,if_false,if_true]
 |true=>
 cases c1:WK s with
 |false=>simp only[go_sem,c10,hu,hp,hn,c0,c1,ZWS,ZWU,ZWR,ZWV,ZX2,if_false,if_true]
 |true=>
 cases c2:Wh s.Bc with
 |false=>simp only[go_sem,c10,hu,hp,hn,c0,c1,c2,ZWS,ZWU,ZWR,ZWV,ZX2,if_false,if_true]
 |true=>
 cases d0:s.Fa.all rgR with
 |false=>rw[d0]at L0;simp only[go_sem,c10,c10L0,hu,hp,hn,c0,c1,c2,L0,b0 d0,ZWS,ZWU,ZWR,ZWV,ZX2,if_false,if_true]
 |true=>
 rw[d0]at L0;cases d1:s.Gm.all stR with
 |false=>rw[d1]at L1;simp only[go_sem,c10,c10L0,c10L1,hu,hp,hn,c0,c1,c2,L0,a0 d0,L1,b1 d1,ZWS,ZWU,ZWR,ZWV,ZX2,if_false,if_true]
 |true=>
 rw[d1]at L1;cases d2:s.Bt.all buR with
 |false=>rw[d2]at L2;simp only[go_sem,c10,c10L0,c10L1,c10L2,hu,hp,hn,c0,c1,c2,L0,a0 d0,L1,a1 d1,L2,b2 d2,ZWS,ZWU,ZWR,ZWV,ZX2,if_false,if_true]
 |true=>
 rw[d2]at L2;cases d3:Zu (ZOD s) 0 s.Bc with
 |false=>rw[d3]at L3;simp only[go_sem,c10,c10L0,c10L1,c10L2,c10L3,hu,hp,hn,c0,c1,c2,L0,a0 d0,L1,a1 d1,L2,a2 d2,L3,b3 d3,ZWS,ZWU,ZWR,ZWV,ZX2,if_false,if_true]
 |true=>
 rw[d3]at L3;cases d4:s.Nk.all (ZOv s)with
 |false=>rw[d4]at L4;simp only[go_sem,c10,c10L0,c10L1,c10L2,c10L3,c10L4,hu,hp,hn,c0,c1,c2,L0,a0 d0,L1,a1 d1,L2,a2 d2,L3,a3 d3,L4,b4 d4,ZWS,ZWU,ZWR,ZWV,ZX2,if_false,if_true]
 |true=>
 rw[d4]at L4;simp only[go_sem,c10,c10L0,c10L1,c10L2,c10L3,c10L4,hu,hp,hn,c0,c1,c2,L0,a0 d0,L1,a1 d1,L2,a2 d2,L3,a3 d3,L4,ZWS,ZWU,ZWR,ZWV,ZX2,if_false,if_true]
def ZS6{E:Env}{α:Type}{live:List Nat}{b:ACode}(l:List α)(P:Nat->α->Bool)(S:Nat->Fr)(H:Nat->Hp)(out:Nat)(Q0:Fr->Prop)(Q:Fr->Hp->Prop)
 (hr:∀i,Z2 live (S i)=S i)
 (good:∀i x,l[i]?=some x->P i x=true->∃fr',Zb E b (S i) (H i)=some (.normal,fr',H<|i+1)/\Z2 live fr'=S (i+1))
 (bad:∀i x,l[i]?=some x->P i x=false->∃fr' h',Zb E b (S i) (H i)=some (.ret,fr',h')/\Q fr' h')
 (last:∃fr',Zb E b (S l.length) (H l.length)=some (.exit out,fr',H l.length)/\Q0 fr'):
 (Zu P 0 l=true->∃fr',Zg E live b (S 0) (H 0)=some (.exit out,fr',H l.length)/\Q0 fr')/\(Zu P 0 l=false->∃fr' h',Zg E live b (S 0) (H 0)=some (.ret,fr',h')/\Q fr' h'):=by
 suffices G:∀(k i:Nat),i+k=l.length->(Zu P i (l.drop i)=true->∃fr',Zg E live b (S i) (H i)=some (.exit out,fr',H l.length)/\Q0 fr')/\(Zu P i (l.drop i)=false->∃fr' h',Zg E live b (S i) (H i)=some (.ret,fr',h')/\Q fr' h')from by
  have:=G l.length 0<|by omega
  rwa[ZXO]at this
 intro k;induction k with
 |zero=>
  intro i hi;have e:i=l.length:=by omega
  subst e;rw[List.drop_length];refine⟨λ_=>?_,λh=>absurd (show true=false from h)<|by decide⟩
  obtain⟨fr',h1,h2⟩:=last;exact⟨fr',Q7 (hr _) h1 (by simp),h2⟩
 |succ k ih=>
  intro i hi;have hlt:i<l.length:=by omega
  have hx:=ZX5 hlt;rw[ZY4 hlt,Zu];cases hP:P i l[i]with
  |true=>
   obtain⟨fr',h1,h2⟩:=good i l[i] hx hP;obtain⟨g1,g2⟩:=ih (i+1)<|by omega
   rw[Yt (hr _) h1,h2,ZWR];exact⟨g1,g2⟩
  |false=>
   rw[ZWV];refine⟨λh=>absurd h (by decide),λ_=>?_⟩
   obtain⟨fr',h',h1,h2⟩:=bad i l[i] hx hP;exact⟨fr',h',Q7 (hr _) h1 (by simp),h2⟩
structure EvQ(e:Gt):Prop extends EvR e where
 idz:∀x∈e.Ids.l,x.size<=1000000
 enz:∀x∈e.Lst.l,x.Id.size<=1000000
def enD(l:List Ent)(i:Nat)(x:Ent):Bool:=(l.take i).all (λy=>!QL y.An x.An)
def enP(z:Bool)(x:Ent):Bool:=bif z then gOn x.bg else QK x.bg ⟨0,0⟩
def enS(l:List Ent)(z:Bool)(i:Nat)(x:Ent):Bool:=(YO x.An&&enP z x)&&enD l i x
def ZS7(bw ex:Bool)(l:List Ent)(hl:l.length<=1000000)(z:Bool)(es:List AV)(he:∀n,Zd n es=true)(i:Nat)(x:Ent)(hx:l[i]?=some x):
 ∃fr',Zg rE [0,2,7,8,9] c142L0b [(0,.isl bw ex 7<|l.map Ent.enc),(2,.bool z),(7,.sl 0 es.length 0 es.length false),(8,I i),(9,.int .i64 0)] [.row 1 es]=some (if enD l i x=true then .exit 2 else .ret,fr',[.row 1 es])/\
  (enD l i x=true->get fr' 0=.isl bw ex 7 (l.map Ent.enc)/\get fr' 2=.bool z/\get fr' 7=.sl 0 es.length 0 es.length false/\get fr' 8=I i)/\(enD l i x=false->get fr' 6=.bool false):=by
 have hgx:=Z6 (f:=Ent.enc) hx;have hli:=Z7 hx;have L:=QT (E:=rE) (live:=[0,2,7,8,9]) (b:=c142L0b) (h:=[.row 1 es]) (l.take i) (λ_ y=>!QL y.An x.An) (λj=>[(0,.isl bw ex 7<|l.map Ent.enc),(2,.bool z),(7,.sl 0 es.length 0 es.length false),(8,I i),(9,I j)]) 2
  (λfr=>get fr 0=.isl bw ex 7 (l.map Ent.enc)/\get fr 2=.bool z/\get fr 7=.sl 0 es.length 0 es.length false/\get fr 8=I i) (λfr=>get fr 6=.bool false) (λk=>rfl)
  (λj y hy hP=>by
   obtain⟨hy',hk⟩:=HH hy;have hgy:=Z6 (f:=Ent.enc) hy';have hlt:=Zh hk;have hw:=Zx (n:=j)<|by omega
   have hP':QL y.An x.An=false:=by simpa using hP
   unfold QL at hP';refine⟨_,by simp only[go_sem,c142L0b,he,hgx,hgy,hlt,hw,Ent.enc,hP'];rfl,?_⟩
   simp only[go_sem])
  (λj y hy hP=>by
   obtain⟨hy',hk⟩:=HH hy;have hgy:=Z6 (f:=Ent.enc) hy';have hlt:=Zh hk;have hP':QL y.An x.An=true:=by simpa using hP
   unfold QL at hP';refine⟨_,by simp only[go_sem,c142L0b,he,hgx,hgy,hlt,Ent.enc,hP'];rfl,?_⟩
   simp only[go_sem])
  (by
   have e:(l.take i).length=i:=by rw[ZXL];omega
   rw[e];exact⟨_,by simp only[go_sem,c142L0b,he,ZG];rfl,by simp only[go_sem],by simp only[go_sem],by simp only[go_sem],by simp only[go_sem]⟩)
 rw[QE]at L;exact L
def ZS8(bw ex:Bool)(l:List Ent)(hl:l.length<=1000)(z:Bool)(K:List Str)(hK:K.length<=1):
 (Zu (enS l z) 0 l=true->∃fr',Zg rE [0,2,7,8] c142L1b [(0,.isl bw ex 7<|l.map Ent.enc),(2,.bool z),(7,.sl 0 K.length 0 K.length false),(8,.int .i64 0)] [.row 1<|K.map encS]=some (.exit 0,fr',[.row 1 ((K++l.map (·.Id)).map encS)])/\get fr' 7=.sl 0 (K++l.map (·.Id)).length 0 (K++l.map (·.Id)).length false)/\
 (Zu (enS l z) 0 l=false->∃fr' h',Zg rE [0,2,7,8] c142L1b [(0,.isl bw ex 7<|l.map Ent.enc),(2,.bool z),(7,.sl 0 K.length 0 K.length false),(8,.int .i64 0)] [.row 1<|K.map encS]=some (.ret,fr',h')/\(get fr' 6=.bool false/\∃es,h'=[.row 1 es])):=by
 have hbS:∀(D:List Str)n,Zd n (D.map encS)=true:=λD n=>ZN _<|Zw (λt=>rfl) D
 have step:∀i x,l[i]?=some x->∃es:List Str,(K++(l.take i).map (·.Id))=es/\es.length<=i+1/\K++(l.take<|i+1).map (·.Id)=es++[x.Id]:=λi x hx=>by
  refine⟨_,rfl,?_,?_⟩
  .rw[ZX7,ZWQ,ZXL];omega
  .rw[ZYx,hx,ZX4,<-ZXx];rfl
 have L:=ZS6 (E:=rE) (live:=[0,2,7,8]) (b:=c142L1b) l (enS l z) (λi=>[(0,.isl bw ex 7<|l.map Ent.enc),(2,.bool z),(7,.sl 0 (K++(l.take i).map (·.Id)).length 0 (K++(l.take i).map (·.Id)).length false),(8,I i)])
  (λi=>[.row 1 ((K++(l.take i).map (·.Id)).map encS)]) 0 (λfr=>get fr 7=.sl 0 (K++l.map (·.Id)).length 0 (K++l.map (·.Id)).length false) (λfr h'=>get fr 6=.bool false/\∃es,h'=[.row 1 es]) (λi=>rfl)
  (λi x hx hP=>by
   have hli:=Z7 hx;obtain⟨es,e1,e2,e3⟩:=step i x hx;rw[e1,e3];have hg:=Z6 (f:=Ent.enc) hx;have hi':=Zh hli;have hwr:=Zx (n:=i)<|by omega
   have hm:=ZPE x.An;have ho:=ZO6 x.bg;have ha:=XC (h:=[.row 1<|es.map encS]) (fz:=false) (b:=0) (g:=es.length) (sz:=1) (bytes:=16) (es:=es.map encS) (bw:=false) (ex:=false) (ys:=[.str x.Id]) (by show(bif (es.map encS).length==es.length then _ else none)=_;rw[ZWQ,beq_self_eq_true];rfl) rfl rfl (by decide) (by decide) (by simp;omega)
   have hma:(es++[x.Id]).map encS=es.map encS++[.str x.Id]:=by rw[ZX4];rfl
   have hb1:=hbS es;have hb2:=hbS<|es++[x.Id];obtain⟨fr',h1,h2,_⟩:=ZS7 bw ex l (by omega) z ((es++[x.Id]).map encS) hb2 i x hx
   rw[hma]at h1 h2 hb2⊢;unfold enS enP at hP;simp only[ZWT]at hP;obtain⟨⟨p1,p2⟩,p3⟩:=hP;rw[if_pos p3]at h1;have h2:=h2 p3;rw[ZX7,ZWQ,ZXr,ZXt]at h1 h2;obtain⟨g0,g2,g7,g8⟩:=h2;cases z with
   |true=>
    rw[cond_true]at p2;refine⟨_,by simp only[go_sem,c142L1b,c142L0,hg,hi',hwr,hm,ho,ha,hb1,hb2,p1,p2,Ent.enc,ZWQ,ZXf,h1,g0,g2,g7,g8,ZWS,ZWU];rfl,?_⟩
    simp only[go_sem,ZX7,ZXr,ZXt]
   |false=>
    rw[cond_false]at p2;unfold QK at p2;refine⟨_,by simp only[go_sem,c142L1b,c142L0,hg,hi',hwr,hm,ho,ha,hb1,hb2,p1,p2,Ent.enc,ZWQ,ZXf,h1,g0,g2,g7,g8,ZWS,ZWU];rfl,?_⟩
    simp only[go_sem,ZX7,ZXr,ZXt])
  (λi x hx hP=>by
   have hli:=Z7 hx;obtain⟨es,e1,e2,e3⟩:=step i x hx;rw[e1];have hg:=Z6 (f:=Ent.enc) hx;have hi':=Zh hli;have hm:=ZPE x.An;have ho:=ZO6 x.bg;have ha:=XC (h:=[.row 1<|es.map encS]) (fz:=false) (b:=0) (g:=es.length) (sz:=1) (bytes:=16) (es:=es.map encS) (bw:=false) (ex:=false) (ys:=[.str x.Id]) (by show(bif (es.map encS).length==es.length then _ else none)=_;rw[ZWQ,beq_self_eq_true];rfl) rfl rfl (by decide) (by decide) (by simp;omega)
   have hma:(es++[x.Id]).map encS=es.map encS++[.str x.Id]:=by rw[ZX4];rfl
   have hb1:=hbS es;have hb2:=hbS<|es++[x.Id];obtain⟨fr',h1,_,h3⟩:=ZS7 bw ex l (by omega) z ((es++[x.Id]).map encS) hb2 i x hx
   rw[hma]at h1 hb2;rw[ZX7,ZWQ,ZXr,ZXt]at h1;cases p1:YO x.An with
   |false=>exact⟨_,_,by simp only[go_sem,c142L1b,c142L0,hg,hi',hm,ha,hb1,hb2,p1,Ent.enc,ZWQ,ZXf,ZWU];rfl,by simp only[go_sem],_,rfl⟩
   |true=>
   cases z with
   |true=>
    cases p2:gOn x.bg with
    |false=>exact⟨_,_,by simp only[go_sem,c142L1b,c142L0,hg,hi',hm,ho,ha,hb1,hb2,p1,p2,Ent.enc,ZWQ,ZXf,ZWS,ZWU];rfl,by simp only[go_sem],_,rfl⟩
    |true=>
     have p3:enD l i x=false:=by unfold enS enP at hP;rw[p1,cond_true,p2]at hP;exact hP
     have g:=h3 p3;rw[p3,if_neg<|by decide]at h1
     exact⟨_,_,by simp only[go_sem,c142L1b,c142L0,hg,hi',hm,ho,ha,hb1,hb2,p1,p2,Ent.enc,ZWQ,ZXf,h1,ZWS,ZWU];rfl,by simp only[go_sem,g],_,rfl⟩
   |false=>
    cases p2:QK x.bg ⟨0,0⟩with
    |false=>
     unfold QK at p2;exact⟨_,_,by simp only[go_sem,c142L1b,c142L0,hg,hi',hm,ho,ha,hb1,hb2,p1,p2,Ent.enc,ZWQ,ZXf,ZWS,ZWU];rfl,by simp only[go_sem],_,rfl⟩
    |true=>
     have p3:enD l i x=false:=by unfold enS enP at hP;rw[p1,cond_false,p2]at hP;exact hP
     have g:=h3 p3;rw[p3,if_neg<|by decide]at h1
     unfold QK at p2;exact⟨_,_,by simp only[go_sem,c142L1b,c142L0,hg,hi',hm,ho,ha,hb1,hb2,p1,p2,Ent.enc,ZWQ,ZXf,h1,ZWS,ZWU];rfl,by simp only[go_sem,g],_,rfl⟩)
  (by
   have hb1:=hbS (K++l.map (·.Id));rw[ZXu];exact⟨_,by simp only[go_sem,c142L1b,ZG,hb1,ZWQ];rfl,by simp only[go_sem]⟩)
 simp only[ZYZ,ZX1,ZXe,ZXu]at L;exact L
def ZPO(l:List Ent)(o:Str)(z:Bool):Bool:=Zu (enS l z) 0 l&&Qv ((bif Z3 o emp then []else [o])++l.map (·.Id))
def ZS9(bw ex:Bool)(l:List Ent)(hl:l.length<=1000)(hz:∀x∈l,x.Id.size<=1000000)(o:Str)(ho:o.size<=1000000)(z:Bool):pfn rE 142 [.isl bw ex 7<|l.map Ent.enc,.str o,.bool z]=some (.bool<|ZPO l o z):=by
 have hbS:∀(D:List Str)n,Zd n (D.map encS)=true:=λD n=>ZN _<|Zw (λt=>rfl) D
 have hcS:∀D:List Str,Z4 (D.map encS)=true:=λD=>Zw (λt=>rfl) _
 have fin:∀K:List Str,(∀x∈K,x.size<=1000000)->∀x∈K++l.map (·.Id),x.size<=1000000:=λK hK x hx=>by
  rcases ZXF.1 hx with h|h
  .exact hK x h
  .obtain⟨y,hy,rfl⟩:=ZXP.1 h;exact hz y hy
 unfold ZPO;rw[Z5 (f:=142) rfl rfl];cases c0:Z3 o emp with
 |true=>
  obtain⟨L1,L2⟩:=ZS8 bw ex l hl z []<|by simp
  have hI:=ZP9 false false ([]++l.map (·.Id)) (by simp;omega)<|fin []<|by simp
  have c0':(!Z3 o emp)=false:=by rw[c0];rfl
  have htk:List.take ([]++l.map (λx:Ent=>x.Id)).length (([]++l.map (λx:Ent=>x.Id)).map encS)=([]++l.map (λx:Ent=>x.Id)).map encS:=ZXp<|by simp
  have hc1:=hcS<|[]++l.map (λx:Ent=>x.Id)
  have hb1:=hbS<|[]++l.map (λx:Ent=>x.Id)
  rw[cond_true];generalize([]++l.map (λx:Ent=>x.Id))=D at*
  cases c1:Zu (enS l z) 0 l with
  |true=>
   obtain⟨fr',h1,g⟩:=L1 c1;simp only[ZX1,ZXt]at h1;simp only[go_sem,c142,c142L1,c0',h1,g,hc1,hb1,htk,hI,ZWQ,ZXO,beq_self_eq_true,ZWR]
  |false=>
   obtain⟨fr',h',h1,g,es,rfl⟩:=L2 c1;simp only[ZX1,ZXt]at h1;simp only[go_sem,c142,c142L1,c0',h1,g,ZWV]
 |false=>
  obtain⟨L1,L2⟩:=ZS8 bw ex l hl z [o]<|by simp
  have hI:=ZP9 false false ([o]++l.map (·.Id)) (by simp;omega)<|fin [o]<|by simpa using ho
  have c0':(!Z3 o emp)=true:=by rw[c0];rfl
  have htk:List.take ([o]++l.map (λx:Ent=>x.Id)).length (([o]++l.map (λx:Ent=>x.Id)).map encS)=([o]++l.map (λx:Ent=>x.Id)).map encS:=ZXp<|by simp
  have hc1:=hcS<|[o]++l.map (λx:Ent=>x.Id)
  have hb1:=hbS<|[o]++l.map (λx:Ent=>x.Id)
  have ha:=XC (h:=[.row 1 []]) (fz:=false) (b:=0) (g:=0) (sz:=1) (bytes:=16) (es:=[]) (bw:=false) (ex:=false) (ys:=[.str o]) rfl rfl rfl (by decide) (by decide) (by show 16<=140737488355328;decide)
  rw[cond_false];generalize([o]++l.map (λx:Ent=>x.Id))=D at*
  cases c1:Zu (enS l z) 0 l with
  |true=>
   obtain⟨fr',h1,g⟩:=L1 c1;simp only[ZX1,ZX3,ZXr,ZXt,encS]at h1;simp only[go_sem,c142,c142L1,c0',ha,h1,g,hc1,hb1,htk,hI,ZWQ,ZXO,beq_self_eq_true,ZWR]
  |false=>
   obtain⟨fr',h',h1,g,es,rfl⟩:=L2 c1;simp only[ZX1,ZX3,ZXr,ZXt,encS]at h1;simp only[go_sem,c142,c142L1,c0',ha,h1,g,ZWV]
def ZSa{α β:Type}{P:Nat->α->Bool}{Q:Nat->β->Bool}{f:α->β}(h:∀i x,P i x=Q i (f x)):∀(l:List α)(i:Nat),Zu P i l=Zu Q i (l.map f)
 |[],_=>rfl
 |x::r,i=>by rw[ZX3,Zu,Zu,h,ZSa h r<|i+1]
def ZV7(l:List Ent):Zu (enD l) 0 l=XH QL (l.map Yl):=by
 rw[ZPn];refine ZSa (λi x=>?_) l 0
 unfold enD;rw[<-List.map_take,List.any_map,List.not_any_eq_all_not];congr 1
 funext y
 show(!QL y.An x.An) = !QL (Yl x) (Yl y)
 rw[ZRE];rfl
def ZSb(l:List Ent)(o:Str)(z:Bool):ZPO l o z=(Xi l (bif Z3 o emp then []else [o])&&Vk l (!z)):=by
 unfold ZPO Xi Vk;have e:Zu (enS l z) 0 l=((Zu (λ_ x=>YO x.An) 0 l&&Zu (λ_ x=>enP z x) 0 l)&&Zu (enD l) 0 l):=by
  rw[<-ZOX,<-ZOX];rfl
 rw[e,QE,QE,ZV7];have e2:l.all (λx=>enP z x) = !l.any (Ux<|!z):=by
  rw[List.not_any_eq_all_not];congr 1
  funext x
  unfold enP Ux;cases z with
  |true=>simp
  |false=>
   show QK x.bg ⟨0,0⟩ = !(!gOn x.bg||(true&&!QK x.bg ⟨0,0⟩))
   cases h:QK x.bg ⟨0,0⟩with
   |false=>simp
   |true=>
    unfold QK at h;simp only[ZWT,beq_iff_eq]at h;have:gOn x.bg=true:=by
     obtain⟨i,n,u,v⟩:=x;simp only at h;obtain⟨rfl,rfl⟩:=h;show gOn ⟨0,0⟩=true
     decide
    rw[this];rfl
 rw[e2];have e3:(λx:Ent=>YO x.An)=K6:=rfl
 have e4:(l.map λx:Ent=>x.Id)=l.map Yd:=rfl
 rw[e3,e4];generalize Qv _=a;cases l.all K6<;>cases(!l.any (Ux !z))<;>cases XH QL (l.map Yl)<;>cases a<;>rfl
def ZV8(e:Gt)(hs:EvQ e)(hu0:okU e=true)(hk:e.bq=8):pfn rE 52 [evA e]=some (.bool<|Q8 e):=by
 have hu:=ZOb e;have hS:=ZOc e hs.toEvS;obtain⟨d1,d2,d3⟩:=ZOf e hu0;rw[d3]at hS;generalize ZO2 e=u at hu hS;have hn:=ZO9 e.Id (by have:=hs.id;omega)
 have q1:(e.bq==1)=false:=by rw[hk];rfl
 have q2:(e.bq==2)=false:=by rw[hk];rfl
 have q3:(e.bq==3)=false:=by rw[hk];rfl
 have q4:(e.bq==4)=false:=by rw[hk];rfl
 have q5:(e.bq==5)=false:=by rw[hk];rfl
 have q6:(e.bq==6)=false:=by rw[hk];rfl
 have q7:(e.bq==7)=false:=by rw[hk];rfl
 have q8:(e.bq==8)=true:=by rw[hk];rfl
 rw[Z5 (f:=52) rfl rfl];unfold Q8 ZD;have hv:=ZS9 false e.Lst.ex e.Lst.l (by have:=hs.lst;omega) hs.enz emp (by decide) false
 have ee:Z3 emp emp=true:=rfl;rw[ZSb,ee,cond_true]at hv;cases c1:ZZ e.Id with
 |false=>simp only[go_sem,c52,d1,d2,hu,hS,hn,ZWS,q1,q2,q3,q4,q5,q6,q7,q8,c1,ZWQ,cond_true,cond_false,ZWR,ZWV,ZWW,ZWX,ZX8]
 |true=>
 cases c2:decide ((e.Lst.l.length:Int)>=1)with
 |false=>simp only[go_sem,c52,d1,d2,hu,hS,hn,ZWS,q1,q2,q3,q4,q5,q6,q7,q8,c1,c2,ZWQ,cond_true,cond_false,ZWR,ZWV,ZWW,ZWX,ZX8]
 |true=>
 cases c5004:decide ((e.Lst.l.length:Int)<=40)with
 |false=>simp only[go_sem,c52,d1,d2,hu,hS,hn,ZWS,q1,q2,q3,q4,q5,q6,q7,q8,c1,c2,c5004,ZWQ,cond_true,cond_false,ZWR,ZWV,ZWW,ZWX,ZX8]
 |true=>simp only[go_sem,c52,d1,d2,hu,hS,hn,ZWS,q1,q2,q3,q4,q5,q6,q7,q8,c1,c2,c5004,hv,ZWQ,cond_true,cond_false,ZWR,ZWV,ZWW,ZWX,ZX8]
def ZV9(e:Gt)(hs:EvQ e)(hu0:okU e=true)(hk:e.bq=9):pfn rE 52 [evA e]=some (.bool<|Q8 e):=by
 have hu:=ZOb e;have hS:=ZOc e hs.toEvS;obtain⟨d1,d2,d3⟩:=ZOf e hu0;rw[d3]at hS;generalize ZO2 e=u at hu hS;have hn:=ZO9 e.Id (by have:=hs.id;omega)
 have q1:(e.bq==1)=false:=by rw[hk];rfl
 have q2:(e.bq==2)=false:=by rw[hk];rfl
 have q3:(e.bq==3)=false:=by rw[hk];rfl
 have q4:(e.bq==4)=false:=by rw[hk];rfl
 have q5:(e.bq==5)=false:=by rw[hk];rfl
 have q6:(e.bq==6)=false:=by rw[hk];rfl
 have q7:(e.bq==7)=false:=by rw[hk];rfl
 have q8:(e.bq==8)=false:=by rw[hk];rfl
 have q9:(e.bq==9)=true:=by rw[hk];rfl
 rw[Z5 (f:=52) rfl rfl];unfold Q8 ZD;have hv:=ZS9 false e.Lst.ex e.Lst.l (by have:=hs.lst;omega) hs.enz e.Id (by have:=hs.id;omega) true
 cases c2:decide ((e.Lst.l.length:Int)>=2)with
 |false=>simp only[go_sem,c52,d1,d2,hu,hS,hn,ZWS,q1,q2,q3,q4,q5,q6,q7,q8,q9,c2,ZWQ,cond_true,cond_false,ZWR,ZWV,ZWW,ZWX,ZX8]
 |true=>
 cases c5004:decide ((e.Lst.l.length:Int)<=8)with
 |false=>simp only[go_sem,c52,d1,d2,hu,hS,hn,ZWS,q1,q2,q3,q4,q5,q6,q7,q8,q9,c2,c5004,ZWQ,cond_true,cond_false,ZWR,ZWV,ZWW,ZWX,ZX8]
 |true=>
 cases c1:ZZ e.Id with
 |false=>
  have hl:Xi e.Lst.l [e.Id]=false:=by
   unfold Xi Qv;have:Ha e.Id=true:=by unfold Ha;rw[c1];rfl
   simp[this]
  rw[hl];simp only[go_sem,c52,d1,d2,hu,hS,hn,ZWS,q1,q2,q3,q4,q5,q6,q7,q8,q9,c1,c2,c5004,ZWQ,cond_true,cond_false,ZWR,ZWV,ZWW,ZWX,ZX8]
 |true=>
  have hne:Z3 e.Id emp=false:=by
   cases h:Z3 e.Id emp with
   |false=>rfl
   |true=>
    rw[(Ky _ _).1 h]at c1;exact absurd c1<|by decide
  rw[ZSb,hne,cond_false]at hv;simp only[go_sem,c52,d1,d2,hu,hS,hn,ZWS,q1,q2,q3,q4,q5,q6,q7,q8,q9,c1,c2,c5004,hv,ZWQ,cond_true,cond_false,ZWR,ZWV,ZWW,ZWX,ZX8]
def ZVa(e:Gt)(hs:EvQ e)(hu0:okU e=true)(hk:e.bq=10):pfn rE 52 [evA e]=some (.bool<|Q8 e):=by
 have hu:=ZOb e;have hS:=ZOc e hs.toEvS;obtain⟨d1,d2,d3⟩:=ZOf e hu0;rw[d3]at hS;generalize ZO2 e=u at hu hS;have hn:=ZO9 e.Id (by have:=hs.id;omega)
 have q1:(e.bq==1)=false:=by rw[hk];rfl
 have q2:(e.bq==2)=false:=by rw[hk];rfl
 have q3:(e.bq==3)=false:=by rw[hk];rfl
 have q4:(e.bq==4)=false:=by rw[hk];rfl
 have q5:(e.bq==5)=false:=by rw[hk];rfl
 have q6:(e.bq==6)=false:=by rw[hk];rfl
 have q7:(e.bq==7)=false:=by rw[hk];rfl
 have q8:(e.bq==8)=false:=by rw[hk];rfl
 have q9:(e.bq==9)=false:=by rw[hk];rfl
 have q10:(e.bq==10)=true:=by rw[hk];rfl
 rw[Z5 (f:=52) rfl rfl];unfold Q8 ZD;have hv:=ZP9 true false (e.Id::e.Ids.l) (by have:=hs.ids;simp;omega) (by
  have:=hs.id;intro x hx;rcases ZXv.1 hx with rfl|h
  .omega
  .exact hs.idz x h)
 rw[ZX3]at hv;have hm:=ZPE e.An;have ho:=ZO6 e.bg;have hlen:=hs.ids;cases c2:decide ((e.Ids.l.length:Int)>=2)with
 |false=>simp only[go_sem,c52,d1,d2,hu,hS,hn,ZWS,q1,q2,q3,q4,q5,q6,q7,q8,q9,q10,c2,ZWQ,cond_true,cond_false,ZWR,ZWV,ZWW,ZWX,ZX8]
 |true=>
 cases c5004:decide ((e.Ids.l.length:Int)<=8)with
 |false=>simp only[go_sem,c52,d1,d2,hu,hS,hn,ZWS,q1,q2,q3,q4,q5,q6,q7,q8,q9,q10,c2,c5004,ZWQ,cond_true,cond_false,ZWR,ZWV,ZWW,ZWX,ZX8]
 |true=>
 have hne:(e.Ids.l.map encS).isEmpty=false:=by
  have:=of_decide_eq_true c2;cases h:e.Ids.l with
  |nil=>rw[h]at this;simp at this
  |cons=>rfl
 have hap:=Z2q (h:=[.row 1 [.str e.Id]]) (aid:=1) (b:=0) (g:=1) (sz:=1) (bytes:=16) (es:=[.str e.Id]) (bw:=false) (ex:=e.Ids.ex) rfl hne (by omega) (by omega) (by have:=hs.ids;simp;omega)
 have hcS:∀K:List Str,Z4 (K.map encS)=true:=λK=>Zw (λt=>rfl) K
 have tk:List.take (e.Ids.l.length+1) (.str e.Id::e.Ids.l.map encS)=.str e.Id::e.Ids.l.map encS:=ZXp<|by simp
 have hv':pfn rE 138 [.isl true false 1<|.str e.Id::e.Ids.l.map encS]=_:=hv;cases c1:Qv (e.Id::e.Ids.l)with
 |false=>simp only[go_sem,c52,d1,d2,hu,hS,hn,ZWS,q1,q2,q3,q4,q5,q6,q7,q8,q9,q10,c1,c2,c5004,hv',appW,hap,ZM,ZH,F5,beq_self_eq_true,tk,hcS,ZWQ,cond_true,cond_false,ZWR,ZWV,ZWW,ZWX,ZX8]
 |true=>
 cases c5005:YO e.An<;>simp only[go_sem,c52,d1,d2,hu,hS,hn,ZWS,q1,q2,q3,q4,q5,q6,q7,q8,q9,q10,c1,c2,c5004,c5005,hv',hm,ho,appW,hap,ZM,ZH,F5,beq_self_eq_true,tk,hcS,ZWQ,cond_true,cond_false,ZWR,ZWV,ZWW,ZWX,ZX8]
def ZVb(e:Gt)(hs:EvQ e)(hu0:okU e=true)(hk:ZD e.bq 1 15=false):pfn rE 52 [evA e]=some (.bool false):=by
 have hu:=ZOb e;have hS:=ZOc e hs.toEvS;obtain⟨d1,d2,d3⟩:=ZOf e hu0;rw[d3]at hS;generalize ZO2 e=u at hu hS;have hn:=ZO9 e.Id (by have:=hs.id;omega)
 have hw:¬(1<=e.bq/\e.bq<=15):=by
  unfold ZD at hk;rintro⟨a,b⟩;rw[decide_eq_true (show e.bq>=1 from a),decide_eq_true b]at hk
  cases hk
 have q1:(e.bq==1)=false:=by rw[beq_eq_false_iff_ne];omega
 have q2:(e.bq==2)=false:=by rw[beq_eq_false_iff_ne];omega
 have q3:(e.bq==3)=false:=by rw[beq_eq_false_iff_ne];omega
 have q4:(e.bq==4)=false:=by rw[beq_eq_false_iff_ne];omega
 have q5:(e.bq==5)=false:=by rw[beq_eq_false_iff_ne];omega
 have q6:(e.bq==6)=false:=by rw[beq_eq_false_iff_ne];omega
 have q7:(e.bq==7)=false:=by rw[beq_eq_false_iff_ne];omega
 have q8:(e.bq==8)=false:=by rw[beq_eq_false_iff_ne];omega
 have q9:(e.bq==9)=false:=by rw[beq_eq_false_iff_ne];omega
 have q10:(e.bq==10)=false:=by rw[beq_eq_false_iff_ne];omega
 have q11:(e.bq==11)=false:=by rw[beq_eq_false_iff_ne];omega
 have q12:(e.bq==12)=false:=by rw[beq_eq_false_iff_ne];omega
 have q13:(e.bq==13)=false:=by rw[beq_eq_false_iff_ne];omega
 have q14:(e.bq==14)=false:=by rw[beq_eq_false_iff_ne];omega
 have q15:(e.bq==15)=false:=by rw[beq_eq_false_iff_ne];omega
 rw[Z5 (f:=52) rfl rfl];simp only[go_sem,c52,d1,d2,hu,hS,hn,ZWS,q1,q2,q3,q4,q5,q6,q7,q8,q9,q10,q11,q12,q13,q14,q15,ZWQ,cond_true,cond_false,ZWR,ZWV,ZWW,ZWX,ZX8]
def ZSc(e:Gt)(hs:EvQ e):pfn rE 52 [evA e]=some (.bool<|Q9 e):=by
 rw[ZRF e hs.toEvS];cases hu:okU e with
 |false=>rw[ZWV,ZWX];exact ZRG e hs.toEvS hu
 |true=>
  cases hw:ZD e.bq 1 15 with
  |false=>exact ZVb e hs hu hw
  |true=>
   rw[ZWR,ZWR];have hr:1<=e.bq/\e.bq<=15:=by
    unfold ZD at hw;rw[ZWT,decide_eq_true_eq,decide_eq_true_eq]at hw;exact hw
   have hk:e.bq=1\/e.bq=2\/e.bq=3\/e.bq=4\/e.bq=5\/e.bq=6\/e.bq=7\/e.bq=8\/e.bq=9\/e.bq=10\/e.bq=11\/e.bq=12\/e.bq=13\/e.bq=14\/e.bq=15:=by omega
   rcases hk with h|h|h|h|h|h|h|h|h|h|h|h|h|h|h
   .exact ZRH e hs.toEvR hu h
   .exact ZRI e hs.toEvR hu h
   .exact ZRJ e hs.toEvR hu h
   .exact ZUi e hs.toEvR hu h
   .exact ZRK e hs.toEvR hu h
   .exact ZRL e hs.toEvR hu h
   .exact ZRM e hs.toEvR hu h
   .exact ZV8 e hs hu h
   .exact ZV9 e hs hu h
   .exact ZVa e hs hu h
   .exact ZUj e hs.toEvR hu h
   .exact ZUk e hs.toEvR hu h
   .exact ZUl e hs.toEvR hu h
   .exact ZUm e hs.toEvR hu h
   .exact ZRN e hs.toEvR hu h
def ZVc(x0 x1:AObj)(h0:∀n,Zj n x0=true)(h1:∀n,10<=n->Zj n x1=true)(w:Wk)(hw:WkS w):
 ∃fr',Zg rE [0,3,5,6] c150L0b [(0,.ptr 9 0 0 1),(3,evI w.e),(5,I<|ZL w.s w.e.Id),(6,.int .i64 0)] (rL x0 x1 w.s []) =
  some (if Zu (λ_ x=>!Kj w.s x) 0 w.e.Lst.l=true then .exit 0 else .ret,fr',rL x0 x1 w.s [])/\(Zu (λ_ x=>!Kj w.s x) 0 w.e.Lst.l=true->get fr' 0=.ptr 9 0 0 1/\get fr' 3=evI w.e/\get fr' 5=I (ZL w.s w.e.Id))/\(Zu (λ_ x=>!Kj w.s x) 0 w.e.Lst.l=false->get fr' 4=I 10):=by
 have hl:=hw.e.lst;exact QT (E:=rE) (live:=[0,3,5,6]) (b:=c150L0b) (h:=rL x0 x1 w.s []) w.e.Lst.l (λ_ x=>!Kj w.s x) (λi=>[(0,.ptr 9 0 0 1),(3,evI w.e),(5,I<|ZL w.s w.e.Id),(6,I i)]) 0
  (λfr=>get fr 0=.ptr 9 0 0 1/\get fr 3=evI w.e/\get fr 5=I (ZL w.s w.e.Id)) (λfr=>get fr 4=I 10) (λk=>rfl)
  (λi x hx hP=>by
   have hg:=Z6 (f:=Ent.enc) hx;have hi':=Zh<|Z7 hx;have hwr:=Zx (n:=i) (by have:=Z7 hx;omega)
   have hf:=ZOg true w.s hw.s x.Id;have hb:decide (Zn w.s x.Id<0)=false:=by simpa[Kj]using hP
   exact⟨_,by simp only[go_sem,c150L0b,hg,hi',hwr,hf,hb,Ent.enc,h0,h1,ZWQ];rfl,by simp only[go_sem]⟩)
  (λi x hx hP=>by
   have hg:=Z6 (f:=Ent.enc) hx;have hi':=Zh<|Z7 hx;have hf:=ZOg true w.s hw.s x.Id;have hb:decide (Zn w.s x.Id<0)=true:=by simpa[Kj]using hP
   exact⟨_,by simp only[go_sem,c150L0b,hg,hi',hf,hb,Ent.enc,h0,h1,ZWQ];rfl,by simp only[go_sem]⟩)
  (⟨_,by simp only[go_sem,c150L0b,ZG,h0,h1,ZWQ];rfl,by simp only[go_sem],by simp only[go_sem],by simp only[go_sem]⟩)
def ZQm{β:Type}(g:Ga->β)(hg:∀n x,g (UP n x)=g x)(D:List Ga)(l:List Ent):∀i,(Yn D l i).map g=D.map g
 |0=>rfl
 |i+1=>by
  rw[Yn];cases l[i]? with
  |none=>exact ZQm g hg D l i
  |some x=>exact(FK g (UP x.An) (λ_=>hg _ _) _ _).trans (ZQm g hg D l i)
def ZSd(w:Wk){i j:Nat}{x:Ent}{y:Ga}(hj:Kk (Yn w.s.Bc w.e.Lst.l i) x.Id=(j:Int))(hy:(Yn w.s.Bc w.e.Lst.l i)[j]?=some y):Hz w x=(y.Ld != -1||!Z3 y.By w.e.Id):=by
 have hids:=Z4o (HA w.s.Bc w.e.Lst.l i) x.Id;have hf:Zn w.s x.Id=(j:Int):=by rw[<-hj,hids];rfl
 have hm:=ZQm (λd=>(d.Ld,d.By)) (λ_ _=>rfl) w.s.Bc w.e.Lst.l i
 have h1:=(show((Yn w.s.Bc w.e.Lst.l i).map (λd:Ga=>(d.Ld,d.By)))[j]?=some (y.Ld,y.By)by rw[ZXJ,hy];rfl)
 rw[hm,ZXJ]at h1;cases hd:w.s.Bc[j]? with
 |none=>rw[hd]at h1;cases h1
 |some d=>
  rw[hd]at h1;have h2:d.Ld=y.Ld/\d.By=y.By:=by simpa using h1
  unfold Hz QN XP;rw[hf,ZXI,hd];dsimp only;rw[h2.1,h2.2]
def ZVd(x0 x1:AObj)(h0:∀n,Zj n x0=true)(h1:∀n,10<=n->Zj n x1=true)(w:Wk)(hw:WkS w)(hb:w.e.Lst.l.any (Kj w.s)=false):
 (Zu (λ_ x=>!Hz w x) 0 w.e.Lst.l=true->∃fr',Zg rE [0,3,7] c150L1b [(0,.ptr 9 0 0 1),(3,evI w.e),(7,I (0:Nat))] (rL x0 x1 w.s [])=some (.exit 2,fr',rL x0 x1 (NY w).s [])/\True)/\
 (Zu (λ_ x=>!Hz w x) 0 w.e.Lst.l=false->∃fr' h',Zg rE [0,3,7] c150L1b [(0,.ptr 9 0 0 1),(3,evI w.e),(7,I (0:Nat))] (rL x0 x1 w.s [])=some (.ret,fr',h')/\get fr' 4=I 11/\∃s',h'=rL x0 x1 s' []):=by
 have hl:=hw.e.lst;have hdoors:=hw.s.doors;exact ZS6 (E:=rE) (live:=[0,3,7]) (b:=c150L1b) w.e.Lst.l (λ_ x=>!Hz w x) (λi=>[(0,.ptr 9 0 0 1),(3,evI w.e),(7,I i)]) (λi=>rL x0 x1 (rnE w.s<|Yn w.s.Bc w.e.Lst.l i) []) 2
  (λ_=>True) (λfr h'=>get fr 4=I 11/\∃s',h'=rL x0 x1 s' []) (λk=>rfl)
  (λi x hx hP=>by
   have hg:=Z6 (f:=Ent.enc) hx;have hi':=Zh<|Z7 hx;have hwr:=Zx (n:=i) (by have:=Z7 hx;omega)
   have hlen:=FL w.s.Bc w.e.Lst.l i;have hids:=Z4o (HA w.s.Bc w.e.Lst.l i) x.Id;rw[ZYG]at hb;have hb1:decide (Kk (Yn w.s.Bc w.e.Lst.l i) x.Id<0)=false:=by
    rw[hids];have:=hb x<|ZXk hx;rw[ZYj]at this;exact this
   obtain⟨j,y,hj,hy⟩:=QC hb1;have hj':Kk (Yn w.s.Bc w.e.Lst.l i) x.Id=(j:Int):=hj;have hb2:=ZSd w hj' hy;have hS:Yn w.s.Bc w.e.Lst.l (i+1)=(Yn w.s.Bc w.e.Lst.l i).set j (UP x.An y):=by
    rw[Yn,hx];dsimp only;rw[hj',ZXI,YA hy]
   rw[hS];rw[hb2]at hP;simp only[Bool.not_or,ZYH,ZWT,ZXn]at hP;obtain⟨c1,c2⟩:=hP;generalize Yn w.s.Bc w.e.Lst.l i=D at hj' hy hlen;have hgd:=Z6 (f:=Ga.enc) hy;have hia:=ZO4 5 16 j (es:=D.map Ga.enc) (n:=D.length) (by simp)<|Z7 hy
   have hf:=ZOg true (rnE w.s D) ⟨hw.s.regions,hw.s.streets,hw.s.buildings,by show D.length<=1000;omega,hw.s.units,hw.s.merged,hw.s.rulings⟩ x.Id
   have hf2:Zn (rnE w.s D) x.Id=(j:Int):=hj';rw[hf2]at hf;simp only[rnE]at hf⊢;exact⟨_,by simp only[go_sem,c150L1b,hg,hi',hwr,hf,hgd,hia,c1,c2,Ent.enc,Ga.enc,NL.enc,h0,h1,ZWQ,ZXc,ZX6,UP,rL,slS,beq_self_eq_true,ZWS];rfl,by simp only[go_sem]⟩)
  (λi x hx hP=>by
   have hg:=Z6 (f:=Ent.enc) hx;have hi':=Zh<|Z7 hx;have hlen:=FL w.s.Bc w.e.Lst.l i;have hids:=Z4o (HA w.s.Bc w.e.Lst.l i) x.Id;rw[ZYG]at hb;have hb1:decide (Kk (Yn w.s.Bc w.e.Lst.l i) x.Id<0)=false:=by
    rw[hids];have:=hb x<|ZXk hx;rw[ZYj]at this;exact this
   obtain⟨j,y,hj,hy⟩:=QC hb1;have hj':Kk (Yn w.s.Bc w.e.Lst.l i) x.Id=(j:Int):=hj;have hb2:=ZSd w hj' hy;rw[hb2]at hP;rw[ZYb]at hP;generalize Yn w.s.Bc w.e.Lst.l i=D at hj' hy hlen;have hgd:=Z6 (f:=Ga.enc) hy;have hia:=ZO4 5 16 j (es:=D.map Ga.enc) (n:=D.length) (by simp)<|Z7 hy
   have hf:=ZOg true (rnE w.s D) ⟨hw.s.regions,hw.s.streets,hw.s.buildings,by show D.length<=1000;omega,hw.s.units,hw.s.merged,hw.s.rulings⟩ x.Id
   have hf2:Zn (rnE w.s D) x.Id=(j:Int):=hj';rw[hf2]at hf;simp only[rnE]at hf⊢;cases c1:y.Ld != -1 with
   |true=>exact⟨_,_,by simp only[go_sem,c150L1b,hg,hi',hf,hgd,hia,c1,Ent.enc,Ga.enc,NL.enc,h0,h1,ZWQ,beq_self_eq_true];rfl,by simp only[go_sem],⟨rnE w.s D,rfl⟩⟩
   |false=>
    rw[c1,ZWZ,ZXn]at hP;exact⟨_,_,by simp only[go_sem,c150L1b,hg,hi',hf,hgd,hia,c1,hP,Ent.enc,Ga.enc,NL.enc,h0,h1,ZWQ,beq_self_eq_true,ZWU];rfl,by simp only[go_sem],⟨rnE w.s D,rfl⟩⟩)
  (⟨_,by simp only[go_sem,c150L1b,ZG,h0,h1,ZWQ];rfl,trivial⟩)
def ZPP{α:Type}(p:α->Bool)(l:List α):Zu (λ_ x=>!p x) 0 l = !l.any p:=by rw[QE<|λx=>!p x,ZP0]
def ZVe(x0 x1:AObj)(h0:∀n,Zj n x0=true)(h1:∀n,10<=n->Zj n x1=true)(w:Wk)(hw:WkS w):
 ∃s',fnV rE 150 [.ptr 9 0 0 1,evA w.e] (rL x0 x1 w.s [])=some (I<|HD w,rL x0 x1 s' [])/\((HD w==0)=true->s'=(NY w).s):=by
 have hf:=ZOQ true w.s hw.s w.e.Id;have z10:((10:Int)==0)=false:=rfl;have z11:((11:Int)==0)=false:=rfl;obtain⟨f0,l0,a0,b0⟩:=ZVc x0 x1 h0 h1 w hw;rw[Q6 (f:=150) rfl rfl];unfold HD;cases c1:decide (ZL w.s w.e.Id<0)with
 |true=>exact⟨w.s,by simp only[go_sem,c150,hf,c1,h0,h1,ZWY,cond_true],λh=>by simp[z10]at h⟩
 |false=>
 rw[ZPP]at l0 a0 b0;cases c2:w.e.Lst.l.any (Kj w.s)with
 |true=>
  rw[c2]at l0 b0;have q4:=b0 rfl;exact⟨w.s,by simp only[go_sem,c150,c150L0,hf,c1,l0,q4,h0,h1,ZXa,ZWS,ZX2,if_false,cond_true],λh=>by simp[z10]at h⟩
 |false=>
 rw[c2]at l0 a0;obtain⟨q0,q3,q5⟩:=a0 rfl;obtain⟨j,y,hj,hy⟩:=QC c1;have hj':ZL w.s w.e.Id=(j:Int):=hj;have hs:QF w.s (ZL w.s w.e.Id)=y.Ld:=by unfold QF;rw[hj',ZXI,hy]
 have hgy:=Z6 (f:=By.enc) hy;have hia:=ZO4 3 5 j (es:=w.s.Gm.map By.enc) (n:=w.s.Gm.length) (by simp)<|Z7 hy
 rw[hs];rw[hj']at q5 hf l0;have hz:decide ((j:Int)<0)=false:=by rw[<-hj'];exact c1
 cases c3:y.Ld != -1 with
 |true=>exact⟨w.s,by simp only[go_sem,c150,c150L0,hf,hz,l0,q0,q3,q5,hgy,hia,c3,h0,h1,By.enc,NL.enc,ZWQ,beq_self_eq_true,ZWZ,ZWU,if_true,cond_true,cond_false,ZWY],λh=>by simp[z11]at h⟩
 |false=>
 obtain⟨A,Bd⟩:=ZVd x0 x1 h0 h1 w hw c2;rw[ZPP]at A Bd;cases c4:w.e.Lst.l.any (Hz w)with
 |true=>
  obtain⟨f1,h',l1,q4,s',rfl⟩:=Bd<|by rw[c4];rfl
  have l1:Zg rE [0,3,7] c150L1b [(0,.ptr 9 0 0 1),(3,evI w.e),(7,.int .i64 0)] _=_:=l1;exact⟨s',by simp only[go_sem,c150,c150L0,c150L1,hf,hz,l0,l1,q0,q3,q4,q5,hgy,hia,c3,h0,h1,By.enc,NL.enc,ZWQ,beq_self_eq_true,ZWZ,ZWU,if_true,cond_true,cond_false,ZXa],λh=>by simp[z11]at h⟩
 |false=>
  obtain⟨f1,l1,_⟩:=A<|by rw[c4];rfl
  have l1:Zg rE [0,3,7] c150L1b [(0,.ptr 9 0 0 1),(3,evI w.e),(7,.int .i64 0)] _=_:=l1;exact⟨(NY w).s,by simp only[go_sem,c150,c150L0,c150L1,hf,hz,l0,l1,q0,q3,q5,hgy,hia,c3,h0,h1,By.enc,NL.enc,ZWQ,beq_self_eq_true,ZWZ,ZWU,if_true,cond_true,cond_false,ZX9],λ_=>rfl⟩
def ZOw(w:Wk)(hk:w.kn=Qp w.s)(id:Str):twB w id=knB w.s id:=by
 rw[ZUA,<-hk];rfl
def ZVf(x0 x1:AObj)(h0:∀n,Zj n x0=true)(h1:∀n,10<=n->Zj n x1=true)(w:Wk)(hw:WkS w)(hk:w.kn=Qp w.s):
 ∃fr' h',Zg rE [0,1,5,7,8] c151L0b [(0,.ptr 9 0 0 1),(1,I w.owner),(5,evI w.e),(7,.sl 10 0 0 0 false),(8,.int .i64 0)] (rL x0 x1 w.s [.row 1 []]) =
  some (if WO w w.e.Lst.l=true then .exit 0 else .ret,fr',h')/\
  (WO w w.e.Lst.l=true->(get fr' 0=.ptr 9 0 0 1/\get fr' 1=I w.owner/\get fr' 5=evI w.e/\get fr' 6=.bot/\get fr' 7=.sl 10 w.e.Lst.l.length 0 w.e.Lst.l.length false)/\h'=rL x0 x1 w.s [.row 1 ((w.e.Lst.l.map (·.Id)).map encS)])/\
  (WO w w.e.Lst.l=false->get fr' 6=.int .i64 8/\∃K,h'=rL x0 x1 w.s [.row 1 K]):=by
 have hbS:∀n(K:List Str),Zd n (K.map encS)=true:=λn K=>ZN _<|Zw (λt=>rfl) K
 have hl:=hw.e.lst;have L:=Jk (E:=rE) (live:=[0,1,5,7,8]) (b:=c151L0b) w.e.Lst.l (λ_ x=>!twB w x.Id)
  (λi=>[(0,.ptr 9 0 0 1),(1,I w.owner),(5,evI w.e),(7,.sl 10 i 0 i false),(8,I i)])
  (λi=>rL x0 x1 w.s [.row 1 (((w.e.Lst.l.take i).map (·.Id)).map encS)]) 0
  (λfr' h'=>(get fr' 0=.ptr 9 0 0 1/\get fr' 1=I w.owner/\get fr' 5=evI w.e/\get fr' 6=.bot/\get fr' 7=.sl 10 w.e.Lst.l.length 0 w.e.Lst.l.length false)/\h'=rL x0 x1 w.s [.row 1 ((w.e.Lst.l.map (·.Id)).map encS)])
  (λfr' h'=>get fr' 6=.int .i64 8/\∃K,h'=rL x0 x1 w.s [.row 1 K])
  (λi=>rfl)
  (λi x hx hp=>by
   have hi:=Z7 hx;have hg:=Z6 (f:=Ent.enc) hx;have hi':=Zh hi;have hwr:=Zx (n:=i)<|by omega
   have ht:=YW (λx:Ent=>x.Id) hx
   have hn:((w.e.Lst.l.take i).map (·.Id)).length=i:=by rw[ZWQ,take_len hx]
   have e1:((w.e.Lst.l.take<|i+1).map (·.Id)).map encS=((w.e.Lst.l.take i).map (·.Id)).map encS++[.str x.Id]:=by
    rw[ht,ZX4];rfl
   have htw:=ZOF true w.s hw.s x.Id;have hp':twB w x.Id=false:=by simpa using hp
   rw[<-ZOw w hk,hp']at htw;rw[e1];generalize(w.e.Lst.l.take i).map (·.Id)=KS at hn⊢;have ha:=XC (h:=rL x0 x1 w.s [.row 1<|KS.map encS]) (fz:=false) (b:=10) (g:=i) (sz:=1) (es:=KS.map encS) (bw:=false) (ex:=false) (ys:=[.str x.Id]) (bytes:=16) (by simp[rowAt,hn]) rfl (by rfl) (by omega) (by omega) (by simp;omega)
   simp only[rL,slS]at ha⊢;refine⟨_,by simp only[go_sem,c151L0b,hg,hi',hwr,Ent.enc,htw,ha,beq_self_eq_true,hbS,h0,h1,ZWQ,cond_false];rfl,by simp only[go_sem]⟩)
  (λi x hx hp=>by
   have hi:=Z7 hx;have hg:=Z6 (f:=Ent.enc) hx;have hi':=Zh hi;have htw:=ZOF true w.s hw.s x.Id;have hp':twB w x.Id=true:=by simpa using hp
   rw[<-ZOw w hk,hp']at htw;refine⟨_,_,by simp only[go_sem,c151L0b,hg,hi',Ent.enc,htw,beq_self_eq_true,hbS,h0,h1,ZWQ];rfl,?_,_,rfl⟩
   simp only[go_sem])
  ⟨_,_,by simp only[go_sem,c151L0b,ZG,ZXu,hbS,h0,h1,ZWQ];rfl,⟨by simp only[go_sem],by simp only[go_sem],by simp only[go_sem],by simp only[go_sem],by simp only[go_sem]⟩,rfl⟩
 simp only[ZYZ,ZX1]at L;exact L
def ZVg(x0 x1:AObj)(h0:∀n,Zj n x0=true)(h1:∀n,10<=n->Zj n x1=true)(w:Wk)(hw:WkS w)(k n:Nat)(K:List Str)(d:Ga)(hd:w.s.Bc[k]?=some d):
 ∃fr',Zg rE [0,1,5,7,9,10] c151L1b [(0,.ptr 9 0 0 1),(1,I w.owner),(5,evI w.e),(7,.sl 10 n 0 n false),(9,I k),(10,.int .i64 0)] (rL x0 x1 w.s [.row 1<|K.map encS]) =
  some (.exit 2,fr',rL x0 x1 (Y5 w d w.e.Lst.l).s [.row 1<|K.map encS])/\get fr' 0=.ptr 9 0 0 1/\get fr' 5=evI w.e/\get fr' 7=.sl 10 n 0 n false/\get fr' 9=I k:=by
 have hbS:∀n(K:List Str),Zd n (K.map encS)=true:=λn K=>ZN _<|Zw (λt=>rfl) K
 have hl:=hw.e.lst;have hdl:=hw.s.doors;have L:=Y8 (E:=rE) (live:=[0,1,5,7,9,10]) (b:=c151L1b) w.e.Lst.l.length
  (λi=>[(0,.ptr 9 0 0 1),(1,I w.owner),(5,evI w.e),(7,.sl 10 n 0 n false),(9,I k),(10,I i)])
  (λi=>rL x0 x1 (Y5 w d<|w.e.Lst.l.take i).s [.row 1<|K.map encS]) (λi=>rfl)
  (λi hi=>by
   obtain⟨x,hx⟩:∃x,w.e.Lst.l[i]?=some x:=⟨_,ZX5 hi⟩;have hg:=Z6 (f:=Ent.enc) hx;have hi':=Zh hi;have hwr:=Zx (n:=i)<|by omega
   have hsz:(Y5 w d<|w.e.Lst.l.take i).s.Bc.length<=1000000:=by simp[Y5];omega
   have ho:=ZQ9 x0 x1 h0 h1 [.row 1<|K.map encS] (Or.inr ⟨_,rfl,λn _=>hbS n K⟩) (Y5 w d<|w.e.Lst.l.take i).s hsz w.owner w.e x.Id x.An x.bg d
   have hq:rnD (Y5 w d<|w.e.Lst.l.take i).s (nwD w.owner w.e x.Id x.An x.bg d)=(Qw (Y5 w d<|w.e.Lst.l.take i)<|Hr d x).s:=rfl;have hD:(Y5 w d<|w.e.Lst.l.take i).s.Bc[k]?=some d:=by
    unfold Y5;rw[ZXK<|Z7 hd,hd]
   rw[hq]at ho;rw[Z3U w d hx];generalize Qw (Y5 w d<|w.e.Lst.l.take i) (Hr d x)=W2 at ho⊢;generalize Y5 w d (w.e.Lst.l.take i)=W at ho hD⊢;have hgd:=Z6 (f:=Ga.enc) hD;have hia:=ZO4 5 16 k (es:=W.s.Bc.map Ga.enc) (n:=W.s.Bc.length) (by simp)<|Z7 hD
   simp only[rH,slS,hnA,ZXj,ZXm,Ga.enc,NL.enc]at ho;simp only[rL,slS];refine⟨_,by simp only[go_sem,c151L1b,hg,hi',hwr,Ent.enc,Ga.enc,NL.enc,hgd,hia,ho,beq_self_eq_true,hbS,h0,h1,ZWQ];rfl,by simp only[go_sem]⟩)
  (e:=.exit 2) (fr:=[(0,.ptr 9 0 0 1),(1,I w.owner),(5,evI w.e),(7,.sl 10 n 0 n false),(9,I k),(10,I w.e.Lst.l.length)]) (h:=rL x0 x1 (Y5 w d<|w.e.Lst.l.take w.e.Lst.l.length).s [.row 1<|K.map encS])
  (by simp only[go_sem,c151L1b,ZG,hbS,h0,h1,ZWQ]) (by simp)
 have e0:Y5 w d (w.e.Lst.l.take 0)=w:=by simp[Y5]
 rw[e0,ZXu]at L;exact⟨_,L,by simp only[go_sem],by simp only[go_sem],by simp only[go_sem],by simp only[go_sem]⟩
abbrev RT2(t:Hp):Prop:=t=[]\/∃x,t=[x]
def ZVh(x0 x1:AObj)(h0:∀n,Zj n x0=true)(h1:∀n,10<=n->Zj n x1=true)(w:Wk)(hw:WkS w)(hk:w.kn=Qp w.s):
 ∃s' t,fnV rE 151 [.ptr 9 0 0 1,I w.owner,evA w.e] (rL x0 x1 w.s [])=some (I<|Ka w,rL x0 x1 s' t)/\RT2 t/\((Ka w==0)=true->s'=(Kb w).s):=by
 have hbS:∀n(K:List Str),Zd n (K.map encS)=true:=λn K=>ZN _<|Zw (λt=>rfl) K
 have hcS:∀K:List Str,Z4 (K.map encS)=true:=λK=>Zw (λt=>rfl) K
 have hf:=ZOg true w.s hw.s w.e.Id;have z8:((8:Int)==0)=false:=rfl;have z10:((10:Int)==0)=false:=rfl;have z11:((11:Int)==0)=false:=rfl;obtain⟨f0,g0,l0,a0,b0⟩:=ZVf x0 x1 h0 h1 w hw hk;rw[Q6 (f:=151) rfl rfl];unfold Ka;cases c0:WO w w.e.Lst.l with
 |false=>
  rw[c0]at l0;obtain⟨q6,K,rfl⟩:=b0 c0;simp only[ZX2,if_false]at l0;exact⟨w.s,[.row 1 K],by simp only[go_sem,c151,c151L0,l0,q6,h0,h1,ZWU,cond_true],Or.inr ⟨_,rfl⟩,λh=>by simp[z8]at h⟩
 |true=>
 rw[c0,if_pos rfl]at l0;obtain⟨⟨q0,q1,q5,q6,q7⟩,rfl⟩:=a0 c0;cases c1:decide (Zn w.s w.e.Id<0)with
 |true=>
  exact⟨w.s,[.row 1 ((w.e.Lst.l.map (·.Id)).map encS)],by simp only[go_sem,c151,c151L0,l0,q0,q1,q5,q6,q7,hbS,h0,h1,hf,c1,ZWS,cond_true,cond_false],Or.inr ⟨_,rfl⟩,λh=>by simp[z10]at h⟩
 |false=>
 obtain⟨j,y,hj,hy⟩:=QC c1;have hj':Zn w.s w.e.Id=(j:Int):=hj;have gy:=Z6 (f:=Ga.enc) hy;have hia:=ZO4 5 16 j (es:=w.s.Bc.map Ga.enc) (n:=w.s.Bc.length) (by simp)<|Z7 hy
 have hdE:QN w.s (j:Int)=y.Ld:=by simp[QN,hy]
 have hdV:Vu w.s (j:Int)=y.Veil:=by simp[Vu,hy]
 have hn:((j:Int)).toNat=j:=rfl;rw[hj']at hf c1⊢;rw[hdE,hdV];cases c2:y.Ld != -1 with
 |true=>
  exact⟨w.s,[.row 1 ((w.e.Lst.l.map (·.Id)).map encS)],by simp only[go_sem,c151,c151L0,l0,q0,q1,q5,q6,q7,hbS,h0,h1,hf,c1,gy,hia,c2,Ga.enc,NL.enc,ZWQ,beq_self_eq_true,ZWS,ZWY,cond_true,cond_false],Or.inr ⟨_,rfl⟩,λh=>by simp[z11]at h⟩
 |false=>
 cases c3:Z3 y.Veil emp with
 |false=>
  exact⟨w.s,[.row 1 ((w.e.Lst.l.map (·.Id)).map encS)],by simp only[go_sem,c151,c151L0,l0,q0,q1,q5,q6,q7,hbS,h0,h1,hf,c1,gy,hia,c2,c3,Ga.enc,NL.enc,ZWQ,beq_self_eq_true,ZWS,ZWU,ZXa,cond_true,cond_false],Or.inr ⟨_,rfl⟩,λh=>by simp[z11]at h⟩
 |true=>
  obtain⟨f1,l1,p0,p5,p7,p9⟩:=ZVg x0 x1 h0 h1 w hw j w.e.Lst.l.length (w.e.Lst.l.map (·.Id)) y hy;have he:=ZPy x0 x1 h0 h1 [.gone] (Or.inr ⟨_,rfl,λn _=>rfl⟩) (Y5 w y w.e.Lst.l) (by have:=hw.s.units;simp[Y5];omega) ⟨false,w.e.Lst.l.map (·.Id)⟩ j (by
   have:=Z7 hy;simp[Y5];omega)
  have hs:Kb w=Qf (Y5 w y w.e.Lst.l) j ⟨false,w.e.Lst.l.map (·.Id)⟩:=by unfold Kb;rw[hj',hn,hy]
  rw[hs];have hwe:(Y5 w y w.e.Lst.l).e=w.e:=rfl;rw[hwe]at he;generalize Qf (Y5 w y w.e.Lst.l) j ⟨false,w.e.Lst.l.map (·.Id)⟩=W2 at he⊢;generalize Y5 w y w.e.Lst.l=W at he l1;simp only[rH,slS,ZXj,ZXm]at he;simp only[rL,slS]at l1 l0;have hz:List.take w.e.Lst.l.length ((w.e.Lst.l.map (·.Id)).map encS)=(w.e.Lst.l.map (·.Id)).map encS:=ZXp<|by simp
  exact⟨W2.s,[.gone],by simp only[go_sem,c151,c151L0,c151L1,l0,l1,q0,q1,q5,q6,q7,p0,p5,p7,p9,hbS,hcS,h0,h1,hf,c1,gy,hia,c2,c3,he,hz,rL,slS,Ga.enc,NL.enc,ZWQ,beq_self_eq_true,ZWS,ZXd,cond_true,cond_false],Or.inr ⟨_,rfl⟩,λ_=>rfl⟩
def ZSe(s:Sta)(id:Str):(-1==Zn s id)=decide (Zn s id<0):=by
 rcases UA (λx:Ga=>Z3 x.Id id) s.Bc 0 with⟨h1,_⟩|⟨j,x,h1,h2,_⟩
 .rw[show Zn s id=-1 from h1];rfl
 .rw[show Zn s id=(0:Int)+j from h1]
  rw[decide_eq_false (by omega),beq_eq_false_iff_ne];omega
def ZVi(x0 x1:AObj)(h0:∀n,Zj n x0=true)(h1:∀n,10<=n->Zj n x1=true)(w:Wk)(hw:WkS w):
 ∃fr',Zg rE [0,1,5,7] c152L0b [(0,.ptr 9 0 0 1),(1,I w.owner),(5,evI w.e),(7,.int .i64 0)] (rL x0 x1 w.s []) =
  some (if Zu (λ_ id=>!(-1==Zn w.s id)) 0 w.e.Ids.l=true then .exit 0 else .ret,fr',rL x0 x1 w.s [])/\(Zu (λ_ id=>!(-1==Zn w.s id)) 0 w.e.Ids.l=true->get fr' 0=.ptr 9 0 0 1/\get fr' 1=I w.owner/\get fr' 5=evI w.e/\get fr' 6=.bot)/\(Zu (λ_ id=>!(-1==Zn w.s id)) 0 w.e.Ids.l=false->get fr' 6=I 10):=by
 have hl:=hw.e.ids;exact QT (E:=rE) (live:=[0,1,5,7]) (b:=c152L0b) (h:=rL x0 x1 w.s []) w.e.Ids.l (λ_ id=>!(-1==Zn w.s id)) (λi=>[(0,.ptr 9 0 0 1),(1,I w.owner),(5,evI w.e),(7,I i)]) 0
  (λfr=>get fr 0=.ptr 9 0 0 1/\get fr 1=I w.owner/\get fr 5=evI w.e/\get fr 6=.bot) (λfr=>get fr 6=I 10) (λk=>rfl)
  (λi x hx hP=>by
   have hg:=Z6 (f:=encS) hx;have hi':=Zh<|Z7 hx;have hwr:=Zx (n:=i) (by have:=Z7 hx;omega)
   have hf:=ZOg true w.s hw.s x;have hb:decide (Zn w.s x<0)=false:=by rw[<-ZSe];simpa using hP
   exact⟨_,by simp only[go_sem,c152L0b,hg,hi',hwr,hf,hb,encS,h0,h1,ZWQ];rfl,by simp only[go_sem]⟩)
  (λi x hx hP=>by
   have hg:=Z6 (f:=encS) hx;have hi':=Zh<|Z7 hx;have hf:=ZOg true w.s hw.s x;have hb:decide (Zn w.s x<0)=true:=by rw[<-ZSe];simpa using hP
   exact⟨_,by simp only[go_sem,c152L0b,hg,hi',hf,hb,encS,h0,h1,ZWQ];rfl,by simp only[go_sem]⟩)
  (⟨_,by simp only[go_sem,c152L0b,ZG,h0,h1,ZWQ];rfl,by simp only[go_sem],by simp only[go_sem],by simp only[go_sem],by simp only[go_sem]⟩)
def ZVj(x0 x1:AObj)(h0:∀n,Zj n x0=true)(h1:∀n,10<=n->Zj n x1=true)(w:Wk)(hw:WkS w)(hn:(Zf w).any (λx=>-1==x)=false)(d:Ga):
 ∃fr',Zg rE [0,1,5,8,9] c152L1b [(0,.ptr 9 0 0 1),(1,I w.owner),(5,evI w.e),(8,.ptr 10 0 0 1),(9,.int .i64 0)] (rL x0 x1 w.s [.row 16 [Zo d]]) =
  some (if Zu (λ_ k=>JG w.s d.By k) 0 (Zf w)=true then .exit 2 else .ret,fr',rL x0 x1 w.s [.row 16 [Zo d]])/\
  (Zu (λ_ k=>JG w.s d.By k) 0 (Zf w)=true->get fr' 0=.ptr 9 0 0 1/\get fr' 1=I w.owner/\get fr' 5=evI w.e/\get fr' 6=.bot/\get fr' 8=.ptr 10 0 0 1)/\
  (Zu (λ_ k=>JG w.s d.By k) 0 (Zf w)=false->get fr' 6=I 11):=by
 have hl:=hw.e.ids;have e:(Zf w).length=w.e.Ids.l.length:=by simp[Zf]
 have L:=QT (E:=rE) (live:=[0,1,5,8,9]) (b:=c152L1b) (h:=rL x0 x1 w.s [.row 16 [Zo d]]) (Zf w) (λ_ k=>JG w.s d.By k) (λi=>[(0,.ptr 9 0 0 1),(1,I w.owner),(5,evI w.e),(8,.ptr 10 0 0 1),(9,I i)]) 2
  (λfr=>get fr 0=.ptr 9 0 0 1/\get fr 1=I w.owner/\get fr 5=evI w.e/\get fr 6=.bot/\get fr 8=.ptr 10 0 0 1) (λfr=>get fr 6=I 11) (λk=>rfl)
  (λi k hk hp=>by
   have hi:=Z7 hk;obtain⟨j,y,rfl,hy⟩:=UK w hn hk;obtain⟨id,hx⟩:∃id,w.e.Ids.l[i]?=some id:=⟨_,ZX5<|by rw[<-e];exact hi⟩
   have hfj:Zn w.s id=(j:Int):=by
    unfold Zf at hk;rw[ZXJ,hx]at hk;exact Option.some.inj hk
   have hf:=ZOg true w.s hw.s id;rw[hfj]at hf;have hg:=Z6 (f:=encS) hx;have gy:=Z6 (f:=Ga.enc) hy;have hi':=Zh<|Z7 hx;have hwr:=Zx (n:=i) (by have:=Z7 hx;omega)
   have hia:=ZO4 5 16 j (es:=w.s.Bc.map Ga.enc) (n:=w.s.Bc.length) (by simp)<|Z7 hy
   have hdE:QN w.s (j:Int)=y.Ld:=by simp[QN,hy]
   have hdV:Vu w.s (j:Int)=y.Veil:=by simp[Vu,hy]
   have hdS:XP w.s (j:Int)=y.By:=by simp[XP,hy]
   have hp':(!((y.Ld != -1||!Z3 y.Veil emp)||!Z3 y.By d.By))=true:=by rw[<-hdE,<-hdV,<-hdS];exact hp
   have c1:(y.Ld != -1)=false:=by revert hp';cases(y.Ld != -1)<;>simp
   have c2:Z3 y.Veil emp=true:=by revert hp';rw[c1];cases Z3 y.Veil emp<;>simp
   have c3:Z3 y.By d.By=true:=by revert hp';rw[c1,c2];cases Z3 y.By d.By<;>simp
   refine⟨_,by simp only[go_sem,c152L1b,Zo,hf,hg,gy,hi',hwr,hia,Ga.enc,NL.enc,encS,c1,c2,c3,beq_self_eq_true,h0,h1,ZWQ,ZWS];rfl,by simp only[go_sem]⟩)
  (λi k hk hp=>by
   have hi:=Z7 hk;obtain⟨j,y,rfl,hy⟩:=UK w hn hk;obtain⟨id,hx⟩:∃id,w.e.Ids.l[i]?=some id:=⟨_,ZX5<|by rw[<-e];exact hi⟩
   have hfj:Zn w.s id=(j:Int):=by
    unfold Zf at hk;rw[ZXJ,hx]at hk;exact Option.some.inj hk
   have hf:=ZOg true w.s hw.s id;rw[hfj]at hf;have hg:=Z6 (f:=encS) hx;have gy:=Z6 (f:=Ga.enc) hy;have hi':=Zh<|Z7 hx;have hia:=ZO4 5 16 j (es:=w.s.Bc.map Ga.enc) (n:=w.s.Bc.length) (by simp)<|Z7 hy
   have hdE:QN w.s (j:Int)=y.Ld:=by simp[QN,hy]
   have hdV:Vu w.s (j:Int)=y.Veil:=by simp[Vu,hy]
   have hdS:XP w.s (j:Int)=y.By:=by simp[XP,hy]
   have hp':(!((y.Ld != -1||!Z3 y.Veil emp)||!Z3 y.By d.By))=false:=by rw[<-hdE,<-hdV,<-hdS];exact hp
   cases c1:(y.Ld != -1)with
   |true=>exact⟨_,by simp only[go_sem,c152L1b,Zo,hf,hg,gy,hi',hia,Ga.enc,NL.enc,encS,c1,beq_self_eq_true,h0,h1,ZWQ];rfl,by simp only[go_sem]⟩
   |false=>
   cases c2:Z3 y.Veil emp with
   |false=>exact⟨_,by simp only[go_sem,c152L1b,Zo,hf,hg,gy,hi',hia,Ga.enc,NL.enc,encS,c1,c2,beq_self_eq_true,h0,h1,ZWQ,ZWU];rfl,by simp only[go_sem]⟩
   |true=>
   cases c3:Z3 y.By d.By with
   |true=>rw[c1,c2,c3]at hp';cases hp'
   |false=>exact⟨_,by simp only[go_sem,c152L1b,Zo,hf,hg,gy,hi',hia,Ga.enc,NL.enc,encS,c1,c2,c3,beq_self_eq_true,h0,h1,ZWQ,ZWU,ZWS];rfl,by simp only[go_sem]⟩)
  (by
   rw[e];exact⟨_,by simp only[go_sem,c152L1b,Zo,ZG,h0,h1,ZWQ];rfl,by simp only[go_sem],by simp only[go_sem],by simp only[go_sem],by simp only[go_sem],by simp only[go_sem]⟩)
 exact L
def FY(w:Wk)(k:Nat)(a:NL Str):(Qf w k a).s.Bc.map (·.Id)=w.s.Bc.map (·.Id):=by
 unfold Qf;split
 .exact FK (λx:Ga=>x.Id) (UF w.e a) (λ_=>rfl) _ _
 .rfl
def Z5n(l:List Int)(a:NL Str):∀w:Wk,(Yg w l a).s.Bc.map (·.Id)=w.s.Bc.map (·.Id):=by
 induction l with
 |nil=>intro w;rfl
 |cons x r ih=>intro w;rw[UJ,ih,FY]
def ZVk(w:Wk)(k:Nat)(a:NL Str):(Qf w k a).s.Fa=w.s.Fa/\(Qf w k a).s.Gm=w.s.Gm/\(Qf w k a).s.Bt=w.s.Bt/\(Qf w k a).s.Gc=w.s.Gc/\(Qf w k a).s.ba=w.s.ba:=by
 unfold Qf;split<;>exact⟨rfl,rfl,rfl,rfl,rfl⟩
def ZVl{w:Wk}(h:StS w.s)(k:Nat)(a:NL Str):StS (Qf w k a).s:=by
 obtain⟨e1,e2,e3,e4,e5⟩:=ZVk w k a;exact⟨by rw[e1];exact h.regions,by rw[e2];exact h.streets,by rw[e3];exact h.buildings,by rw[FB];exact h.doors,by rw[FC];exact h.units,by rw[e4];exact h.merged,by rw[e5];exact h.rulings⟩
def ZVm(l:List Int)(a:NL Str):∀w:Wk,StS w.s->StS (Yg w l a).s:=by
 induction l with
 |nil=>intro w h;exact h
 |cons x r ih=>intro w h;rw[UJ];exact ih _<|ZVl h _ _
def ZVn(x0 x1:AObj)(h0:∀n,Zj n x0=true)(h1:∀n,10<=n->Zj n x1=true)(w:Wk)(hw:WkS w)(hn:(Zf w).any (λx=>-1==x)=false)(w0:Wk)(d:Ga)(hs:StS w0.s)(he0:w0.e=w.e)(hids:∃m,w0.s.Bc.map (·.Id)=(w.s.Bc++m).map (·.Id)):
 ∃fr',Zg rE [0,5,11] c152L2b [(0,.ptr 9 0 0 1),(5,evI w.e),(11,.int .i64 0)] (rL x0 x1 w0.s [.row 16 [Zo d]])=some (.exit 4,fr',rL x0 x1 (Yg w0 (Zf w) ⟨false,[w.e.Id]⟩).s [.row 16 [Zo d]]):=by
 have hl:=hw.e.ids;have e:(Zf w).length=w.e.Ids.l.length:=by simp[Zf]
 have L:=Y8 (E:=rE) (live:=[0,5,11]) (b:=c152L2b) w.e.Ids.l.length
  (λi=>[(0,.ptr 9 0 0 1),(5,evI w.e),(11,I i)])
  (λi=>rL x0 x1 (Yg w0 ((Zf w).take i) ⟨false,[w.e.Id]⟩).s [.row 16 [Zo d]]) (λi=>rfl)
  (λi hi=>by
   obtain⟨id,hx⟩:∃id,w.e.Ids.l[i]?=some id:=⟨_,ZX5 hi⟩;have hk:(Zf w)[i]?=some (Zn w.s id):=by unfold Zf;rw[ZXJ,hx];rfl
   obtain⟨j,y,hfj,hy⟩:=UK w hn hk;rw[hfj]at hk;have hg:=Z6 (f:=encS) hx;have hi':=Zh hi;have hwr:=Zx (n:=i)<|by omega
   rw[Z3Y w0 hk,ZXI];have he:=Z3Z ((Zf w).take i) ⟨false,[w.e.Id]⟩ w0;have hdl:=Z40 ((Zf w).take i) ⟨false,[w.e.Id]⟩ w0;have hid2:=Z5n ((Zf w).take i) ⟨false,[w.e.Id]⟩ w0;have hst:=ZVm ((Zf w).take i) ⟨false,[w.e.Id]⟩ w0 hs;generalize Yg w0 ((Zf w).take i) ⟨false,[w.e.Id]⟩=W at he hdl hid2 hst⊢;obtain⟨m,hm⟩:=hids;have hlen:W.s.Bc.length=w.s.Bc.length+m.length:=by
    have:=congrArg List.length<|hid2.trans hm;simpa using this
   have hfW:Zn W.s id=(j:Int):=by
    rw[ZEz,Zdc<|hid2.trans hm,Zdt (by rw[<-ZEz,hfj];exact decide_eq_false<|by omega),<-ZEz,hfj]
   have hf:=ZOg true W.s hst id;rw[hfW]at hf;have hE:=ZPy x0 x1 h0 h1 [.row 16 [Zo d]] (Or.inr ⟨_,rfl,λn _=>rfl⟩) W (by have:=hst.units;omega) ⟨false,[w.e.Id]⟩ j (by have:=Z7 hy;omega)
   rw[he,he0]at hE;generalize Qf W j ⟨false,[w.e.Id]⟩=W2 at hE⊢;simp only[rH,slS,ZXj,ZXm,ZX3,ZX1,encS]at hE;unfold Zo at hE⊢;simp only[rL,slS];exact⟨_,by simp only[go_sem,c152L2b,hf,hg,hi',hwr,encS,hE,h0,h1,ZWQ];rfl,by simp only[go_sem]⟩)
  (e:=.exit 4) (fr:=[(0,.ptr 9 0 0 1),(5,evI w.e),(11,I w.e.Ids.l.length)]) (h:=rL x0 x1 (Yg w0 ((Zf w).take w.e.Ids.l.length) ⟨false,[w.e.Id]⟩).s [.row 16 [Zo d]])
  (by simp only[go_sem,c152L2b,ZG,Zo,h0,h1,ZWQ]) (by simp)
 rw[<-e,ZXu]at L;exact⟨_,L⟩
def ZVo(x0 x1:AObj)(h0:∀n,Zj n x0=true)(h1:∀n,10<=n->Zj n x1=true)(w:Wk)(hw:WkS w)(hk:w.kn=Qp w.s)(hd:w.s.Bc.length<=900)(hne:0<w.e.Ids.l.length):
 ∃s' t,fnV rE 152 [.ptr 9 0 0 1,I w.owner,evA w.e] (rL x0 x1 w.s [])=some (I<|Kc w,rL x0 x1 s' t)/\RT2 t/\((Kc w==0)=true->s'=(Kd w).s):=by
 have hkn:=ZOF true w.s hw.s w.e.Id;rw[<-ZOw w hk]at hkn;have z8:((8:Int)==0)=false:=rfl;have z10:((10:Int)==0)=false:=rfl;have z11:((11:Int)==0)=false:=rfl;rw[Q6 (f:=152) rfl rfl];unfold Kc;cases c0:twB w w.e.Id with
 |true=>
  rw[c0]at hkn;exact⟨w.s,[],by simp only[go_sem,c152,hkn,h0,h1,cond_true],Or.inl rfl,λh=>by simp[z8]at h⟩
 |false=>
 rw[c0]at hkn;obtain⟨f0,l0,a0,b0⟩:=ZVi x0 x1 h0 h1 w hw;rw[<-ZQf (λid=>Zn w.s id) (λ_(k:Int)=>!(-1==k)),show w.e.Ids.l.map (λid=>Zn w.s id)=Zf w from rfl,ZPP]at l0 a0 b0
 cases c1:(Zf w).any (λx=>-1==x)with
 |true=>
  rw[c1]at l0 b0;have q6:=b0 rfl;exact⟨w.s,[],by simp only[go_sem,c152,c152L0,hkn,l0,q6,h0,h1,ZWS,ZX2,if_false,cond_true,cond_false],Or.inl rfl,λh=>by simp[z10]at h⟩
 |false=>
 rw[c1]at l0 a0;obtain⟨q0,q1,q5,q6⟩:=a0 rfl;have hla:(Zf w).length=w.e.Ids.l.length:=by simp[Zf]
 obtain⟨id,r,hid⟩:∃id r,w.e.Ids.l=id::r:=by
  cases h:w.e.Ids.l with
  |nil=>rw[h]at hne;simp at hne
  |cons x r=>exact⟨x,r,rfl⟩
 have hat:(Zf w)[0]?=some (Zn w.s id):=by unfold Zf;rw[hid];rfl
 obtain⟨j,y,hfj,hy⟩:=UK w c1 hat;have hhd:(Zf w).headD 0=(j:Int):=by unfold Zf;rw[hid];exact hfj
 have hf:=ZOg true w.s hw.s id;rw[hfj]at hf;have hg0:ixG (w.e.Ids.l.map encS) 0=some (.str id):=by rw[hid];rfl
 have gy:=Z6 (f:=Ga.enc) hy;have hia:=ZO4 5 16 j (es:=w.s.Bc.map Ga.enc) (n:=w.s.Bc.length) (by simp)<|Z7 hy
 have hdS:XP w.s (j:Int)=y.By:=by simp[XP,hy]
 obtain⟨f1,l1,a1,b1⟩:=ZVj x0 x1 h0 h1 w hw c1 y;rw[hhd,hdS];cases c2:Zu (λ_ k=>JG w.s y.By k) 0 (Zf w)with
 |false=>
  rw[c2]at l1;have p6:=b1 c2;simp only[rL,slS]at l1;unfold Zo at l1;exact⟨w.s,[.row 16 [Zo y]],by simp only[go_sem,c152,c152L0,c152L1,hkn,l0,q0,q1,q5,q6,hf,hg0,gy,hia,l1,p6,rL,slS,Zo,Ga.enc,NL.enc,h0,h1,ZWQ,beq_self_eq_true,ZWU,ZX2,if_true,if_false,cond_false],Or.inr ⟨_,rfl⟩,λh=>by simp[z11]at h⟩
 |true=>
  rw[c2,if_pos rfl]at l1;obtain⟨p0,p1,p5,p6,p8⟩:=a1 c2;have hnw:=ZQ9 x0 x1 h0 h1 [.row 16 [Zo y]] (Or.inr ⟨_,rfl,λn _=>rfl⟩) w.s (by have:=hw.s.doors;omega) w.owner w.e w.e.Id w.e.An w.e.bg y
  have hq:rnD w.s (nwD w.owner w.e w.e.Id w.e.An w.e.bg y)=(Qw w<|WP w y).s:=rfl;rw[hq]at hnw;have hS:StS (Qw w<|WP w y).s:=⟨hw.s.regions,hw.s.streets,hw.s.buildings,by simp[Qw];omega,hw.s.units,hw.s.merged,hw.s.rulings⟩
  obtain⟨f2,l2⟩:=ZVn x0 x1 h0 h1 w hw c1 (Qw w<|WP w y) y hS rfl ⟨[Xl w<|WP w y],rfl⟩;have hs:Kd w=Yg (Qw w<|WP w y) (Zf w) ⟨false,[w.e.Id]⟩:=by unfold Kd;rw[hhd,ZXI,hy]
  rw[hs];generalize Yg (Qw w<|WP w y) (Zf w) ⟨false,[w.e.Id]⟩=W2 at l2⊢;generalize Qw w (WP w y)=W1 at hnw l2;unfold Zo at l1 l2 hnw;simp only[rL,slS]at l1 l2;simp only[rH,slS,hnA,ZXj,ZXm,Ga.enc,NL.enc]at hnw;exact⟨W2.s,[.row 16 [Zo y]],by simp only[go_sem,c152,c152L0,c152L1,c152L2,hkn,l0,l1,l2,q0,q1,q5,q6,p0,p1,p5,p6,p8,hf,hg0,gy,hia,hnw,rL,slS,Zo,Ga.enc,NL.enc,h0,h1,ZWQ,beq_self_eq_true,ZWU,if_true,cond_true,cond_false],Or.inr ⟨_,rfl⟩,λ_=>rfl⟩
def ZSf{α:Type}{f:α->Str}{l:List α}{id:Str}:decide (look f l id<0)=false↔id∈l.map f:=by
 constructor
 .intro h;obtain⟨j,x,_,h2,h3⟩:=ZcU h;exact ZXP.2 ⟨x,ZXk h2,h3⟩
 .intro h;obtain⟨x,hx,rfl⟩:=ZXP.1 h;exact Ze8 hx
def nb{b:Bool}(h:b=false->False):b=true:=by cases b<;>simp_all
def ZSg(s:Sta)(hN:(Qp s).Nodup)(id:Str):
 (decide (Qo s id<0)=false->decide (ZL s id<0)=true/\decide (Y1 s id<0)=true/\decide (Zn s id<0)=true/\decide (Wf s id<0)=true)/\
 (decide (ZL s id<0)=false->decide (Y1 s id<0)=true/\decide (Zn s id<0)=true/\decide (Wf s id<0)=true)/\
 (decide (Y1 s id<0)=false->decide (Zn s id<0)=true/\decide (Wf s id<0)=true)/\
 (decide (Zn s id<0)=false->decide (Wf s id<0)=true):=by
 unfold Qp at hN;simp only[ZZ5,ZXF]at hN;refine⟨λh=>⟨nb λk=>?_,nb λk=>?_,nb λk=>?_,nb λk=>?_⟩,λh=>⟨nb λk=>?_,nb λk=>?_,nb λk=>?_⟩,λh=>⟨nb λk=>?_,nb λk=>?_⟩,λh=>nb λk=>?_⟩<;>(have h:=ZSf.1 h;have k:=ZSf.1 k;grind)
def ZVp(x0 x1:AObj)(h0:∀n,Zj n x0=true)(h1:∀n,10<=n->Zj n x1=true)(w:Wk)(hw:WkS w)(k:Nat):
 ∃fr',Zg rE [0,3,6,7] c154L0b [(0,.ptr 9 0 0 1),(3,evI w.e),(6,I k),(7,.int .i64 0)] (rL x0 x1 w.s []) =
  some (if Zu (λ_ x=>!(Z3 x.By w.e.Id&&x.Ld==-1)) 0 w.s.Bc=true then .exit 0 else .ret,fr',rL x0 x1 w.s [])/\(Zu (λ_ x=>!(Z3 x.By w.e.Id&&x.Ld==-1)) 0 w.s.Bc=true->get fr' 0=.ptr 9 0 0 1/\get fr' 3=evI w.e/\get fr' 4=.bot/\get fr' 6=I k)/\(Zu (λ_ x=>!(Z3 x.By w.e.Id&&x.Ld==-1)) 0 w.s.Bc=false->get fr' 4=I 11):=by
 have hl:=hw.s.doors;exact QT (E:=rE) (live:=[0,3,6,7]) (b:=c154L0b) (h:=rL x0 x1 w.s []) w.s.Bc (λ_ x=>!(Z3 x.By w.e.Id&&x.Ld==-1)) (λi=>[(0,.ptr 9 0 0 1),(3,evI w.e),(6,I k),(7,I i)]) 0
  (λfr=>get fr 0=.ptr 9 0 0 1/\get fr 3=evI w.e/\get fr 4=.bot/\get fr 6=I k) (λfr=>get fr 4=I 11) (λk=>rfl)
  (λi x hx hP=>by
   have hg:=Z6 (f:=Ga.enc) hx;have hi':=Zh<|Z7 hx;have hwr:=Zx (n:=i) (by have:=Z7 hx;omega)
   have hia:=ZO4 5 16 i (es:=w.s.Bc.map Ga.enc) (n:=w.s.Bc.length) (by simp)<|Z7 hx
   cases c1:Z3 x.By w.e.Id with
   |false=>exact⟨_,by simp only[go_sem,c154L0b,hg,hi',hwr,hia,c1,Ga.enc,NL.enc,h0,h1,ZWQ,beq_self_eq_true];rfl,by simp only[go_sem]⟩
   |true=>
    have c2:(x.Ld==-1)=false:=by rw[c1]at hP;simpa using hP
    exact⟨_,by simp only[go_sem,c154L0b,hg,hi',hwr,hia,c1,c2,Ga.enc,NL.enc,h0,h1,ZWQ,beq_self_eq_true];rfl,by simp only[go_sem]⟩)
  (λi x hx hP=>by
   have hg:=Z6 (f:=Ga.enc) hx;have hi':=Zh<|Z7 hx;have hia:=ZO4 5 16 i (es:=w.s.Bc.map Ga.enc) (n:=w.s.Bc.length) (by simp)<|Z7 hx
   have hP':Z3 x.By w.e.Id=true/\(x.Ld==-1)=true:=by simpa using hP
   exact⟨_,by simp only[go_sem,c154L0b,hg,hi',hia,hP'.1,hP'.2,Ga.enc,NL.enc,h0,h1,ZWQ,beq_self_eq_true];rfl,by simp only[go_sem]⟩)
  (⟨_,by simp only[go_sem,c154L0b,ZG,h0,h1,ZWQ,beq_self_eq_true];rfl,by simp only[go_sem],by simp only[go_sem],by simp only[go_sem],by simp only[go_sem]⟩)
def ZVq(x0 x1:AObj)(h0:∀n,Zj n x0=true)(h1:∀n,10<=n->Zj n x1=true)(w:Wk)(hw:WkS w)(hk:w.kn=Qp w.s)(hN:(Qp w.s).Nodup):
 ∃s',fnV rE 154 [.ptr 9 0 0 1,evA w.e] (rL x0 x1 w.s [])=some (I<|Hw w,rL x0 x1 s' [])/\((Hw w==0)=true->s'=(Hy w).s):=by
 have hR:=ZPJ true w.s hw.s w.e.Id;have hS:=ZOQ true w.s hw.s w.e.Id;have hD:=ZOg true w.s hw.s w.e.Id;have hU:=ZRO true w.s hw.s w.e.Id;obtain⟨k1,k2,k3,k4⟩:=ZSg w.s hN w.e.Id;have htw:twB w w.e.Id=knB w.s w.e.Id:=ZOw w hk _;have z10:((10:Int)==0)=false:=rfl;have z11:((11:Int)==0)=false:=rfl;rw[Q6 (f:=154) rfl rfl];unfold Hw Kg Kh Ki UO;rw[htw];unfold knB;cases c1:decide (Qo w.s w.e.Id<0)with
 |false=>
  obtain⟨n1,n2,n3,n4⟩:=k1 c1;obtain⟨j,x,hj,hx⟩:=QC c1;have hj':Qo w.s w.e.Id=(j:Int):=hj;have d1:=K9 c1;have hg:=Z6 (f:=Gk.enc) hx;have hia:=ZO4 2 6 j (es:=w.s.Fa.map Gk.enc) (n:=w.s.Fa.length) (by simp)<|Z7 hx
  have hE:WM w.s (j:Int)=x.Ld:=by simp[WM,hx]
  rw[hj']at hR d1⊢;rw[hE];cases c2:x.Ld==-1 with
  |true=>
   have c2':(x.Ld != -1)=false:=by rw[bne,c2];rfl
   refine⟨(Hy w).s,?_,λ_=>rfl⟩
   have hs:Hy w=Hu w (w.s.Fa.set j<|UL w.e x):=by
    unfold Hy Kg;rw[c1,hj',hE,c2,ZXI,YA hx];rfl
   rw[hs];simp only[go_sem,c154,hR,d1,hg,hia,c2',Gk.enc,NL.enc,h0,h1,ZWQ,ZXc,ZX6,beq_self_eq_true,Hu,UL,rL,slS,ZWU,ZWR,cond_true]
  |false=>
   have c2':(x.Ld != -1)=true:=by rw[bne,c2];rfl
   refine⟨w.s,?_,λh=>by simp[n1,n2,n3,n4,d1,z11]at h⟩
   simp only[go_sem,c154,hR,d1,hg,hia,c2',Gk.enc,NL.enc,h0,h1,ZWQ,beq_self_eq_true,n1,n2,n3,n4,ZWU,ZWS,ZWR,ZWV,ZWY,cond_true,cond_false]
 |true=>
 have d1:=JE c1;cases c2:decide (ZL w.s w.e.Id<0)with
 |false=>
  obtain⟨n2,n3,n4⟩:=k2 c2;obtain⟨j,x,hj,hx⟩:=QC c2;have hj':ZL w.s w.e.Id=(j:Int):=hj;have d2:=K9 c2;have hg:=Z6 (f:=By.enc) hx;have hia:=ZO4 3 5 j (es:=w.s.Gm.map By.enc) (n:=w.s.Gm.length) (by simp)<|Z7 hx
  have hE:QF w.s (j:Int)=x.Ld:=by simp[QF,hx]
  rw[hj']at hS d2⊢;rw[hE];cases c3:x.Ld==-1 with
  |false=>
   have c3':(x.Ld != -1)=true:=by rw[bne,c3];rfl
   refine⟨w.s,?_,λh=>by simp[n2,n3,n4,d1,d2,z11]at h⟩
   simp only[go_sem,c154,hR,hS,d1,d2,hg,hia,c3',By.enc,NL.enc,h0,h1,ZWQ,beq_self_eq_true,n2,n3,n4,ZWU,ZWS,ZWR,ZWV,ZWY,ZWZ,cond_true,cond_false]
  |true=>
   have c3':(x.Ld != -1)=false:=by rw[bne,c3];rfl
   obtain⟨f0,l0,a0,b0⟩:=ZVp x0 x1 h0 h1 w hw j;rw[ZPP,show w.s.Bc.any (λx=>Z3 x.By w.e.Id&&x.Ld==-1)=Kf w.s w.e.Id from rfl]at l0 a0 b0
   cases c4:Kf w.s w.e.Id with
   |true=>
    rw[c4]at l0 b0;have q4:=b0 rfl;refine⟨w.s,?_,λh=>by simp[z11]at h⟩
    simp only[go_sem,c154,c154L0,hR,hS,d1,d2,hg,hia,c3',l0,q4,By.enc,NL.enc,h0,h1,ZWQ,beq_self_eq_true,ZWU,ZWS,ZWR,ZWV,ZX2,if_false,cond_true,cond_false]
   |false=>
    rw[c4]at l0 a0;obtain⟨q0,q3,q4,q6⟩:=a0 rfl;have hs:Hy w=Hv w (w.s.Gm.set j<|UM w.e x):=by
     unfold Hy Kg Kh;rw[c1,c2,hj',hE,c3,ZXI,YA hx];rfl
    refine⟨(Hy w).s,?_,λ_=>rfl⟩
    rw[hs];simp only[go_sem,c154,c154L0,hR,hS,d1,d2,hg,hia,c3',l0,q0,q3,q4,q6,By.enc,NL.enc,h0,h1,ZWQ,ZXc,ZX6,Hv,UM,rL,slS,beq_self_eq_true,ZWU,ZWS,ZWR,ZWV,if_true,cond_true,cond_false]
 |true=>
 have d2:=JE c2;cases c3:decide (Zn w.s w.e.Id<0)with
 |false=>
  have n4:=k4 c3;have n2:decide (Y1 w.s w.e.Id<0)=true:=nb λh=>by rw[(k3 h).1]at c3;cases c3
  obtain⟨j,x,hj,hx⟩:=QC c3;have hj':Zn w.s w.e.Id=(j:Int):=hj;have d3:=K9 c3;have hg:=Z6 (f:=Ga.enc) hx;have hia:=ZO4 5 16 j (es:=w.s.Bc.map Ga.enc) (n:=w.s.Bc.length) (by simp)<|Z7 hx
  have hE:QN w.s (j:Int)=x.Ld:=by simp[QN,hx]
  rw[hj']at hD d3⊢;rw[hE];cases c4:x.Ld==-1 with
  |false=>
   have c4':(x.Ld != -1)=true:=by rw[bne,c4];rfl
   refine⟨w.s,?_,λh=>by simp[n2,n4,d1,d2,d3,z11]at h⟩
   simp only[go_sem,c154,hR,hS,hD,d1,d2,d3,hg,hia,c4',Ga.enc,NL.enc,h0,h1,ZWQ,beq_self_eq_true,n2,n4,ZWU,ZWS,ZWR,ZWV,ZWY,ZXa,ZWZ,cond_true,cond_false]
  |true=>
   have c4':(x.Ld != -1)=false:=by rw[bne,c4];rfl
   have he:=ZPy x0 x1 h0 h1 [] (Or.inl rfl) w (by have:=hw.s.units;omega) ⟨false,[]⟩ j<|Z7 hx
   have hs:Hy w=Qf w j ⟨false,[]⟩:=by
    unfold Hy Kg Kh Ki;rw[c1,c2,c3,hj',hE,c4,ZXI];rfl
   refine⟨(Hy w).s,?_,λ_=>rfl⟩
   rw[hs];generalize Qf w j ⟨false,[]⟩=W2 at he⊢;simp only[rH,slS,ZXe,ZX1]at he;simp only[go_sem,c154,hR,hS,hD,d1,d2,d3,hg,hia,c4',he,Ga.enc,NL.enc,h0,h1,ZWQ,rL,slS,beq_self_eq_true,ZWU,ZWS,ZWR,ZWV,cond_true,cond_false]
 |true=>
 have d3:=JE c3;cases c4:decide (Wf w.s w.e.Id<0)with
 |true=>
  have d4:=JE c4;have hb:(decide (Y1 w.s w.e.Id>=0)&&decide (Y1 w.s w.e.Id<0))=false:=by
   cases c:decide (Y1 w.s w.e.Id<0)with
   |true=>rw[JE c];rfl
   |false=>rw[ZWX]
  refine⟨w.s,?_,λh=>by simp only[d1,d2,d3,d4,hb,ZWS,ZWV,ZWZ,ZX9,cond_false,z10]at h;cases h⟩
  simp only[go_sem,c154,hR,hS,hD,hU,d1,d2,d3,d4,c4,hb,h0,h1,ZWS,ZWV,ZWZ,ZX9,cond_true,cond_false]
 |false=>
  have d4:=K9 c4;have n2:decide (Y1 w.s w.e.Id<0)=true:=nb λh=>by rw[(k3 h).2]at c4;cases c4
  obtain⟨j,x,hj,hx⟩:=QC c4;have hj':Wf w.s w.e.Id=(j:Int):=hj;have hg:=Z6 (f:=be.enc) hx;have hia:=ZO4 6 6 j (es:=w.s.Nk.map be.enc) (n:=w.s.Nk.length) (by simp)<|Z7 hx
  have hia2:=λv=>ZO4 6 6 j (es:=(w.s.Nk.map be.enc).set j v) (n:=w.s.Nk.length) (by simp)<|Z7 hx
  have hset:∀v,((w.s.Nk.map be.enc).set j v)[j]?=some v:=λv=>by simp[Z7 hx]
  have hE:NW w.s (j:Int)=x.Ld:=by simp[NW,hx]
  have hz:decide ((j:Int)<0)=false:=by rw[<-hj'];exact c4
  rw[hj']at hU d4⊢;rw[hE];cases c5:x.Ld==-1 with
  |false=>
   have c5':(x.Ld != -1)=true:=by rw[bne,c5];rfl
   refine⟨w.s,?_,λh=>by simp[n2,d1,d2,d3,d4,z11]at h⟩
   simp only[go_sem,c154,hR,hS,hD,hU,hz,d1,d2,d3,d4,hg,hia,c5',be.enc,h0,h1,ZWQ,beq_self_eq_true,n2,ZWU,ZWS,ZWR,ZWV,ZWY,ZXa,ZWZ,cond_true,cond_false]
  |true=>
   have c5':(x.Ld != -1)=false:=by rw[bne,c5];rfl
   have hs:Hy w=Qx w (w.s.Nk.set j<|UN w.e x):=by
    unfold Hy Kg Kh Ki;rw[c1,c2,c3,hj',ZXI,YA hx];rfl
   refine⟨(Hy w).s,?_,λ_=>rfl⟩
   rw[hs];simp only[go_sem,c154,hR,hS,hD,hU,hz,d1,d2,d3,hg,hia,hia2,hset,c5',be.enc,h0,h1,ZWQ,ZXc,ZXY,ZX6,Qx,UN,rL,slS,beq_self_eq_true,ZWU,ZWS,ZWR,ZWV,cond_true,cond_false]
def ZVr(x0 x1:AObj)(h0:∀n,Zj n x0=true)(h1:∀n,10<=n->Zj n x1=true)(w:Wk)(hw:WkS w)(hn:w.kn=Qp w.s)(hk:w.e.bq=14):
 ∃s' t,fnV rE 54 [.ptr 9 0 0 1,I w.owner,evA w.e] (rL x0 x1 w.s [])=some (I<|Q1 w,rL x0 x1 s' t)/\RT2 t/\((Q1 w==0)=true->s'=(stepW w).s):=by
 have q1:(w.e.bq==1)=false:=by rw[hk];rfl
 have q2:(w.e.bq==2)=false:=by rw[hk];rfl
 have q3:(w.e.bq==3)=false:=by rw[hk];rfl
 have q4:(w.e.bq==4)=false:=by rw[hk];rfl
 have q5:(w.e.bq==5)=false:=by rw[hk];rfl
 have q6:(w.e.bq==6)=false:=by rw[hk];rfl
 have q7:(w.e.bq==7)=false:=by rw[hk];rfl
 have q8:(w.e.bq==8)=false:=by rw[hk];rfl
 have q9:(w.e.bq==9)=false:=by rw[hk];rfl
 have q10:(w.e.bq==10)=false:=by rw[hk];rfl
 have q11:(w.e.bq==11)=false:=by rw[hk];rfl
 have q12:(w.e.bq==12)=false:=by rw[hk];rfl
 have q13:(w.e.bq==13)=false:=by rw[hk];rfl
 have q14:(w.e.bq==14)=true:=by rw[hk];rfl
 have eE:Q1 w=0:=by unfold Q1;rw[hk];rfl
 have eW:stepW w=Hh w:=by unfold stepW;rw[hk];rfl
 rw[eE,eW,Q6 (f:=54) rfl rfl];have hap:=λh aid(hb:h[8]?=_)=>ZOI (h:=h) (aid:=aid) (fz:=false) (b:=8) (g:=w.s.ba.length) (sz:=2) (es:=w.s.ba.map bf.enc) (bw:=false) (ex:=false) (ys:=[((⟨w.e.A,w.e.B⟩:bf)).enc]) (bytes:=16) hb (by simp) rfl (by rfl) (by omega) (by omega) (by have:=hw.s.rulings;simp;omega)
 have hap2:=λh(hb:rowAt h 8 w.s.ba.length=_)=>XC (h:=h) (fz:=false) (b:=8) (g:=w.s.ba.length) (sz:=2) (es:=w.s.ba.map bf.enc) (bw:=false) (ex:=false) (ys:=[((⟨w.e.A,w.e.B⟩:bf)).enc]) (bytes:=16) hb rfl (by rfl) (by omega) (by omega) (by have:=hw.s.rulings;simp;omega)
 have hap:=λaid=>hap (rL x0 x1 w.s []) aid rfl
 have hap2:=hap2 (rL x0 x1 w.s [])<|by simp[rowAt]
 simp only[rL,slS,bf.enc,NL.enc,ZX1]at hap hap2;exact⟨(Hh w).s,[],by simp only[go_sem,c54,q1,q2,q3,q4,q5,q6,q7,q8,q9,q10,q11,q12,q13,q14,hap,hap2,Hh,bf.enc,h0,h1,ZWQ,ZXc,ZX7,ZXh,ZX4,ZX3,ZX1,ZX6,rL,slS,beq_self_eq_true,ZWS,ZWU,ZWY,ZXa,ZWZ,ZX9,ZXd,ZWR,ZWV,ZWW,ZWX,ZX8,cond_true,cond_false],Or.inl rfl,λ_=>rfl⟩
def ZVs(x0 x1:AObj)(h0:∀n,Zj n x0=true)(h1:∀n,10<=n->Zj n x1=true)(w:Wk)(hw:WkS w)(hn:w.kn=Qp w.s)(hk:w.e.bq=2):
 ∃s' t,fnV rE 54 [.ptr 9 0 0 1,I w.owner,evA w.e] (rL x0 x1 w.s [])=some (I<|Q1 w,rL x0 x1 s' t)/\RT2 t/\((Q1 w==0)=true->s'=(stepW w).s):=by
 have q1:(w.e.bq==1)=false:=by rw[hk];rfl
 have q2:(w.e.bq==2)=true:=by rw[hk];rfl
 have hkn:=ZOF true w.s hw.s w.e.Id;rw[<-ZOw w hn]at hkn;have z8:((8:Int)==0)=false:=rfl;have eE:Q1 w=(bif twB w w.e.Id then 8 else 0):=by unfold Q1;rw[hk];rfl
 have eW:stepW w=Jz w:=by unfold stepW;rw[hk];rfl
 rw[eE,eW,Q6 (f:=54) rfl rfl];have hap:=λh aid(hb:h[3]?=_)=>ZOI (h:=h) (aid:=aid) (fz:=false) (b:=3) (g:=w.s.Gm.length) (sz:=5) (es:=w.s.Gm.map By.enc) (bw:=false) (ex:=false) (ys:=[(NP w).enc]) (bytes:=80) hb (by simp) rfl (by rfl) (by omega) (by omega) (by have:=hw.s.streets;simp;omega)
 have hap2:=λh(hb:rowAt h 3 w.s.Gm.length=_)=>XC (h:=h) (fz:=false) (b:=3) (g:=w.s.Gm.length) (sz:=5) (es:=w.s.Gm.map By.enc) (bw:=false) (ex:=false) (ys:=[(NP w).enc]) (bytes:=80) hb rfl (by rfl) (by omega) (by omega) (by have:=hw.s.streets;simp;omega)
 have hap:=λaid=>hap (rL x0 x1 w.s []) aid rfl
 have hap2:=hap2 (rL x0 x1 w.s [])<|by simp[rowAt]
 simp only[rL,slS,By.enc,NP,NL.enc,ZX1]at hap hap2;cases c:twB w w.e.Id with
 |true=>
  rw[c]at hkn;exact⟨w.s,[],by simp only[go_sem,c54,q1,q2,hkn,h0,h1,ZWQ,ZXc,ZX7,ZXh,ZX4,ZX3,ZX1,ZX6,rL,slS,beq_self_eq_true,ZWS,ZWU,ZWY,ZXa,ZWZ,ZX9,ZXd,ZWR,ZWV,ZWW,ZWX,ZX8,cond_true,cond_false],Or.inl rfl,λh=>by simp[z8]at h⟩
 |false=>
  rw[c]at hkn;exact⟨(Jz w).s,[],by simp only[go_sem,c54,q1,q2,hkn,hap,hap2,Jz,NP,By.enc,NL.enc,h0,h1,ZWQ,ZXc,ZX7,ZXh,ZX4,ZX3,ZX1,ZX6,rL,slS,beq_self_eq_true,ZWS,ZWU,ZWY,ZXa,ZWZ,ZX9,ZXd,ZWR,ZWV,ZWW,ZWX,ZX8,cond_true,cond_false],Or.inl rfl,λ_=>rfl⟩
def ZVt(x0 x1:AObj)(h0:∀n,Zj n x0=true)(h1:∀n,10<=n->Zj n x1=true)(w:Wk)(hw:WkS w)(hn:w.kn=Qp w.s)(hk:w.e.bq=5):
 ∃s' t,fnV rE 54 [.ptr 9 0 0 1,I w.owner,evA w.e] (rL x0 x1 w.s [])=some (I<|Q1 w,rL x0 x1 s' t)/\RT2 t/\((Q1 w==0)=true->s'=(stepW w).s):=by
 have q1:(w.e.bq==1)=false:=by rw[hk];rfl
 have q2:(w.e.bq==2)=false:=by rw[hk];rfl
 have q3:(w.e.bq==3)=false:=by rw[hk];rfl
 have q4:(w.e.bq==4)=false:=by rw[hk];rfl
 have q5:(w.e.bq==5)=true:=by rw[hk];rfl
 have hkn:=ZOF true w.s hw.s w.e.Id;rw[<-ZOw w hn]at hkn;have z8:((8:Int)==0)=false:=rfl;have eE:Q1 w=(bif twB w w.e.Id then 8 else 0):=by unfold Q1;rw[hk];rfl
 have eW:stepW w=JA w:=by unfold stepW;rw[hk];rfl
 rw[eE,eW,Q6 (f:=54) rfl rfl];have hap:=λh aid(hb:h[4]?=_)=>ZOI (h:=h) (aid:=aid) (fz:=false) (b:=4) (g:=w.s.Bt.length) (sz:=4) (es:=w.s.Bt.map Ev.enc) (bw:=false) (ex:=false) (ys:=[(NQ w).enc]) (bytes:=56) hb (by simp) rfl (by rfl) (by omega) (by omega) (by have:=hw.s.buildings;simp;omega)
 have hap2:=λh(hb:rowAt h 4 w.s.Bt.length=_)=>XC (h:=h) (fz:=false) (b:=4) (g:=w.s.Bt.length) (sz:=4) (es:=w.s.Bt.map Ev.enc) (bw:=false) (ex:=false) (ys:=[(NQ w).enc]) (bytes:=56) hb rfl (by rfl) (by omega) (by omega) (by have:=hw.s.buildings;simp;omega)
 have hap:=λaid=>hap (rL x0 x1 w.s []) aid rfl
 have hap2:=hap2 (rL x0 x1 w.s [])<|by simp[rowAt]
 simp only[rL,slS,Ev.enc,NQ,NL.enc,ZX1]at hap hap2;cases c:twB w w.e.Id with
 |true=>
  rw[c]at hkn;exact⟨w.s,[],by simp only[go_sem,c54,q1,q2,q3,q4,q5,hkn,h0,h1,ZWQ,ZXc,ZX7,ZXh,ZX4,ZX3,ZX1,ZX6,rL,slS,beq_self_eq_true,ZWS,ZWU,ZWY,ZXa,ZWZ,ZX9,ZXd,ZWR,ZWV,ZWW,ZWX,ZX8,cond_true,cond_false],Or.inl rfl,λh=>by simp[z8]at h⟩
 |false=>
  rw[c]at hkn;exact⟨(JA w).s,[],by simp only[go_sem,c54,q1,q2,q3,q4,q5,hkn,hap,hap2,JA,NQ,Ev.enc,NL.enc,h0,h1,ZWQ,ZXc,ZX7,ZXh,ZX4,ZX3,ZX1,ZX6,rL,slS,beq_self_eq_true,ZWS,ZWU,ZWY,ZXa,ZWZ,ZX9,ZXd,ZWR,ZWV,ZWW,ZWX,ZX8,cond_true,cond_false],Or.inl rfl,λ_=>rfl⟩
def ZVu(x0 x1:AObj)(h0:∀n,Zj n x0=true)(h1:∀n,10<=n->Zj n x1=true)(w:Wk)(hw:WkS w)(hn:w.kn=Qp w.s)(hk:w.e.bq=15):
 ∃s' t,fnV rE 54 [.ptr 9 0 0 1,I w.owner,evA w.e] (rL x0 x1 w.s [])=some (I<|Q1 w,rL x0 x1 s' t)/\RT2 t/\((Q1 w==0)=true->s'=(stepW w).s):=by
 have q1:(w.e.bq==1)=false:=by rw[hk];rfl
 have q2:(w.e.bq==2)=false:=by rw[hk];rfl
 have q3:(w.e.bq==3)=false:=by rw[hk];rfl
 have q4:(w.e.bq==4)=false:=by rw[hk];rfl
 have q5:(w.e.bq==5)=false:=by rw[hk];rfl
 have q6:(w.e.bq==6)=false:=by rw[hk];rfl
 have q7:(w.e.bq==7)=false:=by rw[hk];rfl
 have q8:(w.e.bq==8)=false:=by rw[hk];rfl
 have q9:(w.e.bq==9)=false:=by rw[hk];rfl
 have q10:(w.e.bq==10)=false:=by rw[hk];rfl
 have q11:(w.e.bq==11)=false:=by rw[hk];rfl
 have q12:(w.e.bq==12)=false:=by rw[hk];rfl
 have q13:(w.e.bq==13)=false:=by rw[hk];rfl
 have q14:(w.e.bq==14)=false:=by rw[hk];rfl
 have q15:(w.e.bq==15)=true:=by rw[hk];rfl
 have hkn:=ZOF true w.s hw.s w.e.Id;rw[<-ZOw w hn]at hkn;have z8:((8:Int)==0)=false:=rfl;have eE:Q1 w=(bif twB w w.e.Id then 8 else 0):=by unfold Q1;rw[hk];rfl
 have eW:stepW w=Qw w (UD w):=by unfold stepW;rw[hk];rfl
 rw[eE,eW,Q6 (f:=54) rfl rfl];have hap:=λh aid(hb:h[5]?=_)=>ZOI (h:=h) (aid:=aid) (fz:=false) (b:=5) (g:=w.s.Bc.length) (sz:=16) (es:=w.s.Bc.map Ga.enc) (bw:=false) (ex:=false) (ys:=[(Xl w<|UD w).enc]) (bytes:=184) hb (by simp) rfl (by rfl) (by omega) (by omega) (by have:=hw.s.doors;simp;omega)
 have hap2:=λh(hb:rowAt h 5 w.s.Bc.length=_)=>XC (h:=h) (fz:=false) (b:=5) (g:=w.s.Bc.length) (sz:=16) (es:=w.s.Bc.map Ga.enc) (bw:=false) (ex:=false) (ys:=[(Xl w<|UD w).enc]) (bytes:=184) hb rfl (by rfl) (by omega) (by omega) (by have:=hw.s.doors;simp;omega)
 have hap:=λaid=>hap (rL x0 x1 w.s []) aid rfl
 have hap2:=hap2 (rL x0 x1 w.s [])<|by simp[rowAt]
 simp only[rL,slS,Ga.enc,Xl,UD,NL.enc,ZX1]at hap hap2;cases c:twB w w.e.Id with
 |true=>
  rw[c]at hkn;exact⟨w.s,[],by simp only[go_sem,c54,q1,q2,q3,q4,q5,q6,q7,q8,q9,q10,q11,q12,q13,q14,q15,hkn,h0,h1,ZWQ,ZXc,ZX7,ZXh,ZX4,ZX3,ZX1,ZX6,rL,slS,beq_self_eq_true,ZWS,ZWU,ZWY,ZXa,ZWZ,ZX9,ZXd,ZWR,ZWV,ZWW,ZWX,ZX8,cond_true,cond_false],Or.inl rfl,λh=>by simp[z8]at h⟩
 |false=>
  rw[c]at hkn;exact⟨(Qw w<|UD w).s,[],by simp only[go_sem,c54,q1,q2,q3,q4,q5,q6,q7,q8,q9,q10,q11,q12,q13,q14,q15,hkn,hap,hap2,Qw,Xl,UD,Ga.enc,NL.enc,h0,h1,ZWQ,ZXc,ZX7,ZXh,ZX4,ZX3,ZX1,ZX6,rL,slS,beq_self_eq_true,ZWS,ZWU,ZWY,ZXa,ZWZ,ZX9,ZXd,ZWR,ZWV,ZWW,ZWX,ZX8,cond_true,cond_false],Or.inl rfl,λ_=>rfl⟩
def ZVv(x0 x1:AObj)(h0:∀n,Zj n x0=true)(h1:∀n,10<=n->Zj n x1=true)(w:Wk)(hw:WkS w)(hn:w.kn=Qp w.s)(hk:w.e.bq=7):
 ∃s' t,fnV rE 54 [.ptr 9 0 0 1,I w.owner,evA w.e] (rL x0 x1 w.s [])=some (I<|Q1 w,rL x0 x1 s' t)/\RT2 t/\((Q1 w==0)=true->s'=(stepW w).s):=by
 have q1:(w.e.bq==1)=false:=by rw[hk];rfl
 have q2:(w.e.bq==2)=false:=by rw[hk];rfl
 have q3:(w.e.bq==3)=false:=by rw[hk];rfl
 have q4:(w.e.bq==4)=false:=by rw[hk];rfl
 have q5:(w.e.bq==5)=false:=by rw[hk];rfl
 have q6:(w.e.bq==6)=false:=by rw[hk];rfl
 have q7:(w.e.bq==7)=true:=by rw[hk];rfl
 have hkn:=ZOF true w.s hw.s w.e.Id;rw[<-ZOw w hn]at hkn;have z8:((8:Int)==0)=false:=rfl;have z10:((10:Int)==0)=false:=rfl;have z11:((11:Int)==0)=false:=rfl;have hf:=ZOg true w.s hw.s w.e.br;have eE:Q1 w=JB w:=by unfold Q1;rw[hk];rfl
 have eW:stepW w=JC w:=by unfold stepW;rw[hk];rfl
 rw[eE,eW,Q6 (f:=54) rfl rfl];have hap:=λh aid(hb:h[6]?=_)=>ZOI (h:=h) (aid:=aid) (fz:=false) (b:=6) (g:=w.s.Nk.length) (sz:=6) (es:=w.s.Nk.map be.enc) (bw:=false) (ex:=false) (ys:=[(NR w).enc]) (bytes:=72) hb (by simp) rfl (by rfl) (by omega) (by omega) (by have:=hw.s.units;simp;omega)
 have hap2:=λh(hb:rowAt h 6 w.s.Nk.length=_)=>XC (h:=h) (fz:=false) (b:=6) (g:=w.s.Nk.length) (sz:=6) (es:=w.s.Nk.map be.enc) (bw:=false) (ex:=false) (ys:=[(NR w).enc]) (bytes:=72) hb rfl (by rfl) (by omega) (by omega) (by have:=hw.s.units;simp;omega)
 have hap:=λaid=>hap (rL x0 x1 w.s []) aid rfl
 have hap2:=hap2 (rL x0 x1 w.s [])<|by simp[rowAt]
 simp only[rL,slS,be.enc,NR,NL.enc,ZX1]at hap hap2;unfold JB;cases c:twB w w.e.Id with
 |true=>
  rw[c]at hkn;exact⟨w.s,[],by simp only[go_sem,c54,q1,q2,q3,q4,q5,q6,q7,hkn,h0,h1,ZWQ,ZXc,ZX7,ZXh,ZX4,ZX3,ZX1,ZX6,rL,slS,beq_self_eq_true,ZWS,ZWU,ZWY,ZXa,ZWZ,ZX9,ZXd,ZWR,ZWV,ZWW,ZWX,ZX8,cond_true,cond_false],Or.inl rfl,λh=>by simp[z8]at h⟩
 |false=>
 rw[c]at hkn;cases c1:decide (Zn w.s w.e.br<0)with
 |true=>exact⟨w.s,[],by simp only[go_sem,c54,q1,q2,q3,q4,q5,q6,q7,hkn,hf,c1,h0,h1,ZWQ,ZXc,ZX7,ZXh,ZX4,ZX3,ZX1,ZX6,rL,slS,beq_self_eq_true,ZWS,ZWU,ZWY,ZXa,ZWZ,ZX9,ZXd,ZWR,ZWV,ZWW,ZWX,ZX8,cond_true,cond_false],Or.inl rfl,λh=>by simp[z10]at h⟩
 |false=>
 obtain⟨j,x,hj,hx⟩:=QC c1;have hj':Zn w.s w.e.br=(j:Int):=hj;have hzj:decide ((j:Int)<0)=false:=by rw[<-hj'];exact c1
 have hg:=Z6 (f:=Ga.enc) hx;have hij:=ZO4 5 16 j (es:=w.s.Bc.map Ga.enc) (n:=w.s.Bc.length) (by simp)<|Z7 hx
 have hE:QN w.s (j:Int)=x.Ld:=by simp[QN,hx]
 rw[hj']at hf⊢;rw[hE];cases c2:x.Ld != -1 with
 |true=>exact⟨w.s,[],by simp only[go_sem,c54,q1,q2,q3,q4,q5,q6,q7,hkn,hf,hzj,hg,hij,c2,Ga.enc,NL.enc,h0,h1,ZWQ,ZXc,ZX7,ZXh,ZX4,ZX3,ZX1,ZX6,rL,slS,beq_self_eq_true,ZWS,ZWU,ZWY,ZXa,ZWZ,ZX9,ZXd,ZWR,ZWV,ZWW,ZWX,ZX8,cond_true,cond_false],Or.inl rfl,λh=>by simp[z11]at h⟩
 |false=>exact⟨(JC w).s,[],by simp only[go_sem,c54,q1,q2,q3,q4,q5,q6,q7,hkn,hf,hzj,hg,hij,c2,hap,hap2,JC,NR,be.enc,Ga.enc,NL.enc,h0,h1,ZWQ,ZXc,ZX7,ZXh,ZX4,ZX3,ZX1,ZX6,rL,slS,beq_self_eq_true,ZWS,ZWU,ZWY,ZXa,ZWZ,ZX9,ZXd,ZWR,ZWV,ZWW,ZWX,ZX8,cond_true,cond_false],Or.inl rfl,λ_=>rfl⟩
def ZVw(x0 x1:AObj)(h0:∀n,Zj n x0=true)(h1:∀n,10<=n->Zj n x1=true)(w:Wk)(hw:WkS w)(hn:w.kn=Qp w.s)(hk:w.e.bq=6):
 ∃s' t,fnV rE 54 [.ptr 9 0 0 1,I w.owner,evA w.e] (rL x0 x1 w.s [])=some (I<|Q1 w,rL x0 x1 s' t)/\RT2 t/\((Q1 w==0)=true->s'=(stepW w).s):=by
 have q1:(w.e.bq==1)=false:=by rw[hk];rfl
 have q2:(w.e.bq==2)=false:=by rw[hk];rfl
 have q3:(w.e.bq==3)=false:=by rw[hk];rfl
 have q4:(w.e.bq==4)=false:=by rw[hk];rfl
 have q5:(w.e.bq==5)=false:=by rw[hk];rfl
 have q6:(w.e.bq==6)=true:=by rw[hk];rfl
 have hkn:=ZOF true w.s hw.s w.e.Id;rw[<-ZOw w hn]at hkn;have z8:((8:Int)==0)=false:=rfl;have z10:((10:Int)==0)=false:=rfl;have z11:((11:Int)==0)=false:=rfl;have hb:=ZPK true w.s hw.s w.e.br;have ht:=ZOQ true w.s hw.s w.e.Text;have eE:Q1 w=JD w:=by unfold Q1;rw[hk];rfl
 have eW:stepW w=Qw w (UE w):=by unfold stepW;rw[hk];rfl
 rw[eE,eW,Q6 (f:=54) rfl rfl];have ho:=ZQ9 x0 x1 h0 h1 [] (Or.inl rfl) w.s (by have:=hw.s.doors;omega) w.owner w.e w.e.Id w.e.An w.e.bg ⟨emp,w.e.br,w.e.Text,0,⟨0,emp,0,0⟩,⟨0,0⟩,0,0,⟨false,[]⟩,0,0,emp⟩
 have hq:rnD w.s (nwD w.owner w.e w.e.Id w.e.An w.e.bg ⟨emp,w.e.br,w.e.Text,0,⟨0,emp,0,0⟩,⟨0,0⟩,0,0,⟨false,[]⟩,0,0,emp⟩)=(Qw w<|UE w).s:=rfl;rw[hq]at ho;generalize Qw w (UE w)=W2 at ho⊢;simp only[rH,slS,hnA,ZXe,Ga.enc,NL.enc,ZX1]at ho;unfold JD;cases c:twB w w.e.Id with
 |true=>
  rw[c]at hkn;exact⟨w.s,[],by simp only[go_sem,c54,q1,q2,q3,q4,q5,q6,hkn,h0,h1,ZWQ,ZXc,ZX7,ZXh,ZX4,ZX3,ZX1,ZX6,rL,slS,beq_self_eq_true,ZWS,ZWU,ZWY,ZXa,ZWZ,ZX9,ZXd,ZWR,ZWV,ZWW,ZWX,ZX8,cond_true,cond_false],Or.inl rfl,λh=>by simp[z8]at h⟩
 |false=>
 rw[c]at hkn;cases c1:decide (Y1 w.s w.e.br<0)with
 |true=>exact⟨w.s,[],by simp only[go_sem,c54,q1,q2,q3,q4,q5,q6,hkn,hb,ht,c1,h0,h1,ZWQ,ZXc,ZX7,ZXh,ZX4,ZX3,ZX1,ZX6,rL,slS,beq_self_eq_true,ZWS,ZWU,ZWY,ZXa,ZWZ,ZX9,ZXd,ZWR,ZWV,ZWW,ZWX,ZX8,cond_true,cond_false],Or.inl rfl,λh=>by simp[z10]at h⟩
 |false=>
 cases c2:decide (ZL w.s w.e.Text<0)with
 |true=>exact⟨w.s,[],by simp only[go_sem,c54,q1,q2,q3,q4,q5,q6,hkn,hb,ht,c1,c2,h0,h1,ZWQ,ZXc,ZX7,ZXh,ZX4,ZX3,ZX1,ZX6,rL,slS,beq_self_eq_true,ZWS,ZWU,ZWY,ZXa,ZWZ,ZX9,ZXd,ZWR,ZWV,ZWW,ZWX,ZX8,cond_true,cond_false],Or.inl rfl,λh=>by simp[z10]at h⟩
 |false=>
 obtain⟨j,x,hj,hx⟩:=QC c1;have hj':Y1 w.s w.e.br=(j:Int):=hj;have hzj:decide ((j:Int)<0)=false:=by rw[<-hj'];exact c1
 have hg:=Z6 (f:=Ev.enc) hx;have hij:=ZO4 4 4 j (es:=w.s.Bt.map Ev.enc) (n:=w.s.Bt.length) (by simp)<|Z7 hx
 obtain⟨k,y,hk,hy⟩:=QC c2;have hk':ZL w.s w.e.Text=(k:Int):=hk;have hzk:decide ((k:Int)<0)=false:=by rw[<-hk'];exact c2
 have ht2:=Z6 (f:=By.enc) hy;have hik:=ZO4 3 5 k (es:=w.s.Gm.map By.enc) (n:=w.s.Gm.length) (by simp)<|Z7 hy
 have hE:WL w.s (j:Int)=x.Ld:=by simp[WL,hx]
 have hF:QF w.s (k:Int)=y.Ld:=by simp[QF,hy]
 rw[hj']at hb⊢;rw[hk']at ht⊢;rw[hE,hF];cases c3:x.Ld != -1 with
 |true=>exact⟨w.s,[],by simp only[go_sem,c54,q1,q2,q3,q4,q5,q6,hkn,hb,ht,hzj,hzk,hg,hij,hik,ht2,c3,Ev.enc,By.enc,NL.enc,h0,h1,ZWQ,ZXc,ZX7,ZXh,ZX4,ZX3,ZX1,ZX6,rL,slS,beq_self_eq_true,ZWS,ZWU,ZWY,ZXa,ZWZ,ZX9,ZXd,ZWR,ZWV,ZWW,ZWX,ZX8,cond_true,cond_false],Or.inl rfl,λh=>by simp[z11]at h⟩
 |false=>
 cases c4:y.Ld != -1 with
 |true=>exact⟨w.s,[],by simp only[go_sem,c54,q1,q2,q3,q4,q5,q6,hkn,hb,ht,hzj,hzk,hg,hij,hik,ht2,c3,c4,Ev.enc,By.enc,NL.enc,h0,h1,ZWQ,ZXc,ZX7,ZXh,ZX4,ZX3,ZX1,ZX6,rL,slS,beq_self_eq_true,ZWS,ZWU,ZWY,ZXa,ZWZ,ZX9,ZXd,ZWR,ZWV,ZWW,ZWX,ZX8,cond_true,cond_false],Or.inl rfl,λh=>by simp[z11]at h⟩
 |false=>exact⟨W2.s,[],by simp only[go_sem,c54,q1,q2,q3,q4,q5,q6,hkn,hb,ht,hzj,hzk,hg,hij,hik,ht2,c3,c4,ho,Ev.enc,By.enc,NL.enc,h0,h1,ZWQ,ZXc,ZX7,ZXh,ZX4,ZX3,ZX1,ZX6,rL,slS,beq_self_eq_true,ZWS,ZWU,ZWY,ZXa,ZWZ,ZX9,ZXd,ZWR,ZWV,ZWW,ZWX,ZX8,cond_true,cond_false],Or.inl rfl,λ_=>rfl⟩
def ZVx(x0 x1:AObj)(h0:∀n,Zj n x0=true)(h1:∀n,10<=n->Zj n x1=true)(w:Wk)(hw:WkS w)(hn:w.kn=Qp w.s)(hk:w.e.bq=1):
 ∃s' t,fnV rE 54 [.ptr 9 0 0 1,I w.owner,evA w.e] (rL x0 x1 w.s [])=some (I<|Q1 w,rL x0 x1 s' t)/\RT2 t/\((Q1 w==0)=true->s'=(stepW w).s):=by
 have q1:(w.e.bq==1)=true:=by rw[hk];rfl
 have hkn:=ZOF true w.s hw.s w.e.Id;rw[<-ZOw w hn]at hkn;have z8:((8:Int)==0)=false:=rfl;have z10:((10:Int)==0)=false:=rfl;have z11:((11:Int)==0)=false:=rfl;have hr:=ZPJ true w.s hw.s w.e.Id;have eE:Q1 w=Hi w:=by unfold Q1;rw[hk];rfl
 have eW:stepW w=Hj w:=by unfold stepW;rw[hk];rfl
 rw[eE,eW,Q6 (f:=54) rfl rfl];have hap:=λh aid(hb:h[2]?=_)=>ZOI (h:=h) (aid:=aid) (fz:=false) (b:=2) (g:=w.s.Fa.length) (sz:=6) (es:=w.s.Fa.map Gk.enc) (bw:=false) (ex:=false) (ys:=[(Fw w).enc]) (bytes:=88) hb (by simp) rfl (by rfl) (by omega) (by omega) (by have:=hw.s.regions;simp;omega)
 have hap2:=λh(hb:rowAt h 2 w.s.Fa.length=_)=>XC (h:=h) (fz:=false) (b:=2) (g:=w.s.Fa.length) (sz:=6) (es:=w.s.Fa.map Gk.enc) (bw:=false) (ex:=false) (ys:=[(Fw w).enc]) (bytes:=88) hb rfl (by rfl) (by omega) (by omega) (by have:=hw.s.regions;simp;omega)
 have hap:=λaid=>hap (rL x0 x1 w.s []) aid rfl
 have hap2:=hap2 (rL x0 x1 w.s [])<|by simp[rowAt]
 simp only[rL,slS,Gk.enc,Fw,NL.enc,ZX1]at hap hap2;unfold Hi Hj;cases c1:decide (Qo w.s w.e.Id<0)with
 |true=>
  have d1:=c1;cases c:twB w w.e.Id with
  |true=>
   rw[c]at hkn;exact⟨w.s,[],by simp only[go_sem,c54,q1,hr,hkn,d1,h0,h1,ZWQ,ZXc,ZX7,ZXh,ZX4,ZX3,ZX1,ZX6,rL,slS,beq_self_eq_true,ZWS,ZWU,ZWY,ZXa,ZWZ,ZX9,ZXd,ZWR,ZWV,ZWW,ZWX,ZX8,cond_true,cond_false],Or.inl rfl,λh=>by simp[z8]at h⟩
  |false=>
   rw[c]at hkn;exact⟨_,[],by simp only[go_sem,c54,q1,hr,hkn,d1,hap,hap2,Fw,Gk.enc,NL.enc,h0,h1,ZWQ,ZXc,ZX7,ZXh,ZX4,ZX3,ZX1,ZX6,rL,slS,beq_self_eq_true,ZWS,ZWU,ZWY,ZXa,ZWZ,ZX9,ZXd,ZWR,ZWV,ZWW,ZWX,ZX8,cond_true,cond_false],Or.inl rfl,λ_=>rfl⟩
 |false=>
 obtain⟨j,x,hj,hx⟩:=QC c1;have hj':Qo w.s w.e.Id=(j:Int):=hj;have hzj:decide ((j:Int)<0)=false:=by rw[<-hj'];exact c1
 have hg:=Z6 (f:=Gk.enc) hx;have hij:=ZO4 2 6 j (es:=w.s.Fa.map Gk.enc) (n:=w.s.Fa.length) (by simp)<|Z7 hx
 have hE:WM w.s (j:Int)=x.Ld:=by simp[WM,hx]
 have hK:NU w.s (j:Int)=x.bq:=by simp[NU,hx]
 rw[hj']at hr⊢;rw[hE,hK,ZXI,YA hx];cases c2:x.Ld != -1 with
 |true=>exact⟨w.s,[],by simp only[go_sem,c54,q1,hr,hzj,hg,hij,c2,Gk.enc,NL.enc,h0,h1,ZWQ,ZXc,ZX7,ZXh,ZX4,ZX3,ZX1,ZX6,rL,slS,beq_self_eq_true,ZWS,ZWU,ZWY,ZXa,ZWZ,ZX9,ZXd,ZWR,ZWV,ZWW,ZWX,ZX8,cond_true,cond_false],Or.inl rfl,λh=>by simp[z11]at h⟩
 |false=>
 cases c3:x.bq != w.e.A with
 |true=>exact⟨w.s,[],by simp only[go_sem,c54,q1,hr,hzj,hg,hij,c2,c3,Gk.enc,NL.enc,h0,h1,ZWQ,ZXc,ZX7,ZXh,ZX4,ZX3,ZX1,ZX6,rL,slS,beq_self_eq_true,ZWS,ZWU,ZWY,ZXa,ZWZ,ZX9,ZXd,ZWR,ZWV,ZWW,ZWX,ZX8,cond_true,cond_false],Or.inl rfl,λh=>by simp[z11]at h⟩
 |false=>exact⟨_,[],by simp only[go_sem,c54,q1,hr,hzj,hg,hij,c2,c3,NS,Gk.enc,NL.enc,h0,h1,ZWQ,ZXc,ZX7,ZXh,ZX4,ZX3,ZX1,ZX6,rL,slS,beq_self_eq_true,ZWS,ZWU,ZWY,ZXa,ZWZ,ZX9,ZXd,ZWR,ZWV,ZWW,ZWX,ZX8,cond_true,cond_false],Or.inl rfl,λ_=>rfl⟩
def ZVy(x0 x1:AObj)(h0:∀n,Zj n x0=true)(h1:∀n,10<=n->Zj n x1=true)(w:Wk)(hw:WkS w)(hN:(Qp w.s).Nodup)(hk:w.e.bq=3):
 ∃s' t,fnV rE 54 [.ptr 9 0 0 1,I w.owner,evA w.e] (rL x0 x1 w.s [])=some (I<|Q1 w,rL x0 x1 s' t)/\RT2 t/\((Q1 w==0)=true->s'=(stepW w).s):=by
 have q1:(w.e.bq==1)=false:=by rw[hk];rfl
 have q2:(w.e.bq==2)=false:=by rw[hk];rfl
 have q3:(w.e.bq==3)=true:=by rw[hk];rfl
 have z10:((10:Int)==0)=false:=rfl;have z11:((11:Int)==0)=false:=rfl;have hr:=ZPJ true w.s hw.s w.e.Id;have ht:=ZOQ true w.s hw.s w.e.Id;have eE:Q1 w=Hk w:=by unfold Q1;rw[hk];rfl
 have eW:stepW w=Hl w:=by unfold stepW;rw[hk];rfl
 rw[eE,eW,Q6 (f:=54) rfl rfl];unfold Hk Hl;cases c1:decide (Qo w.s w.e.Id<0)with
 |false=>
  have d1:=K9 c1;have hs:(decide (ZL w.s w.e.Id>=0)&&QF w.s (ZL w.s w.e.Id) != -1)=false:=by
   rw[JE ((ZSg w.s hN w.e.Id).1 c1).1];rfl
  obtain⟨j,x,hj,hx⟩:=QC c1;have hj':Qo w.s w.e.Id=(j:Int):=hj;have hzj:decide ((j:Int)<0)=false:=by rw[<-hj'];exact c1
  have hg:=Z6 (f:=Gk.enc) hx;have hij:=ZO4 2 6 j (es:=w.s.Fa.map Gk.enc) (n:=w.s.Fa.length) (by simp)<|Z7 hx
  have hE:WM w.s (j:Int)=x.Ld:=by simp[WM,hx]
  rw[hs];rw[hj']at hr d1⊢;rw[hE,ZXI,YA hx];cases c2:x.Ld != -1 with
  |true=>exact⟨w.s,[],by simp only[go_sem,c54,q1,q2,q3,hr,ht,hzj,d1,hg,hij,c2,Gk.enc,NL.enc,h0,h1,ZWQ,ZXc,ZX7,ZXh,ZX4,ZX3,ZX1,ZX6,rL,slS,beq_self_eq_true,ZWS,ZWU,ZWY,ZXa,ZWZ,ZX9,ZXd,ZWR,ZWV,ZWW,ZWX,ZX8,cond_true,cond_false],Or.inl rfl,λh=>by simp[z11]at h⟩
  |false=>exact⟨{w.s with Fa:=w.s.Fa.set j (NT w.e.bk x)},[],by simp only[go_sem,c54,q1,q2,q3,hr,ht,hzj,d1,hg,hij,c2,NT,Gk.enc,NL.enc,h0,h1,ZWQ,ZXc,ZX7,ZXh,ZX4,ZX3,ZX1,ZX6,rL,slS,beq_self_eq_true,ZWS,ZWU,ZWY,ZXa,ZWZ,ZX9,ZXd,ZWR,ZWV,ZWW,ZWX,ZX8,cond_true,cond_false],Or.inl rfl,λ_=>by rw[d1];rfl⟩
 |true=>
 have d1:=JE c1;cases c3:decide (ZL w.s w.e.Id<0)with
 |true=>exact⟨w.s,[],by simp only[go_sem,c54,q1,q2,q3,hr,ht,c1,d1,c3,h0,h1,ZWQ,ZXc,ZX7,ZXh,ZX4,ZX3,ZX1,ZX6,rL,slS,beq_self_eq_true,ZWS,ZWU,ZWY,ZXa,ZWZ,ZX9,ZXd,ZWR,ZWV,ZWW,ZWX,ZX8,cond_true,cond_false],Or.inl rfl,λh=>by simp[z10]at h⟩
 |false=>
 have d3:=K9 c3;obtain⟨j,x,hj,hx⟩:=QC c3;have hj':ZL w.s w.e.Id=(j:Int):=hj;have hzj:decide ((j:Int)<0)=false:=by rw[<-hj'];exact c3
 have hg:=Z6 (f:=By.enc) hx;have hij:=ZO4 3 5 j (es:=w.s.Gm.map By.enc) (n:=w.s.Gm.length) (by simp)<|Z7 hx
 have hE:QF w.s (j:Int)=x.Ld:=by simp[QF,hx]
 rw[hj']at ht d3⊢;rw[hE,ZXI,YA hx];cases c2:x.Ld != -1 with
 |true=>exact⟨w.s,[],by simp only[go_sem,c54,q1,q2,q3,hr,ht,hzj,c1,d1,d3,hg,hij,c2,By.enc,NL.enc,h0,h1,ZWQ,ZXc,ZX7,ZXh,ZX4,ZX3,ZX1,ZX6,rL,slS,beq_self_eq_true,ZWS,ZWU,ZWY,ZXa,ZWZ,ZX9,ZXd,ZWR,ZWV,ZWW,ZWX,ZX8,cond_true,cond_false],Or.inl rfl,λh=>by simp[z11]at h⟩
 |false=>exact⟨{w.s with Gm:=w.s.Gm.set j (XN w.e.bk x)},[],by simp only[go_sem,c54,q1,q2,q3,hr,ht,hzj,c1,d1,d3,hg,hij,c2,XN,By.enc,NL.enc,h0,h1,ZWQ,ZXc,ZX7,ZXh,ZX4,ZX3,ZX1,ZX6,rL,slS,beq_self_eq_true,ZWS,ZWU,ZWY,ZXa,ZWZ,ZX9,ZXd,ZWR,ZWV,ZWW,ZWX,ZX8,cond_true,cond_false],Or.inl rfl,λ_=>by rw[d1];rfl⟩
def ZKv(w:Wk)(l:List Ga):∀(i j:Nat),i<=j->(Y6 w l i).s.Bc[j]?=w.s.Bc[j]?
 |0,_,_=>rfl
 |i+1,j,h=>by
  rw[Y6];cases l[i]? with
  |none=>exact ZKv w l i j<|by omega
  |some x=>
   dsimp only;cases NV w.e.Id x with
   |false=>exact ZKv w l i j<|by omega
   |true=>
    rw[cond_true,<-ZKv w l i j (by omega)]
    generalize Y6 w l i=W;unfold Qf;split
    .show(ZK W.s.Bc i<|UF W.e ⟨false,[]⟩)[j]?=W.s.Bc[j]?
     unfold ZK;split
     .rw[ZZl<|by omega]
     .rfl
    .rfl
def ZVz(x0 x1:AObj)(h0:∀n,Zj n x0=true)(h1:∀n,10<=n->Zj n x1=true)(w:Wk)(hu:w.s.Nk.length<=1000)(hd:w.s.Bc.length<=1000):
 ∃fr',Zg rE [0,5,17] c54L0b [(0,.ptr 9 0 0 1),(5,evI w.e),(17,.int .i64 0)] (rL x0 x1 w.s [])=some (.exit 1,fr',rL x0 x1 (Y6 w w.s.Bc w.s.Bc.length).s []):=by
 have L:=Y8 (E:=rE) (live:=[0,5,17]) (b:=c54L0b) w.s.Bc.length (λi=>[(0,.ptr 9 0 0 1),(5,evI w.e),(17,I i)]) (λi=>rL x0 x1 (Y6 w w.s.Bc i).s []) (λi=>rfl)
  (λi hi=>by
   obtain⟨x,hx⟩:∃x,w.s.Bc[i]?=some x:=⟨_,ZX5 hi⟩;have hwr:=Zx (n:=i)<|by omega
   obtain⟨he,hdl,hul⟩:=FF w w.s.Bc i;have hat:=ZKv w w.s.Bc i i<|ZX0 _;have hi':=Zh (by rw[hdl];exact hi:i<(Y6 w w.s.Bc i).s.Bc.length)
   have hS:Y6 w w.s.Bc (i+1)=bif Z3 x.Ev w.e.Id&&x.Ld==-1 then Qf (Y6 w w.s.Bc i) i ⟨false,[]⟩else Y6 w w.s.Bc i:=by
    rw[Y6,hx];rfl
   rw[hS];rw[hx]at hat;generalize Y6 w w.s.Bc i=W at he hdl hul hat hi'⊢;have hg:=Z6 (f:=Ga.enc) hat;have hia:=ZO4 5 16 i (es:=W.s.Bc.map Ga.enc) (n:=W.s.Bc.length) (by simp)<|by omega
   have hE:=ZPy x0 x1 h0 h1 [] (Or.inl rfl) W (by omega) ⟨false,[]⟩ i<|by omega
   rw[he]at hE;generalize Qf W i ⟨false,[]⟩=W2 at hE⊢;simp only[rH,slS,ZXe,ZX1]at hE;cases c1:Z3 x.Ev w.e.Id with
   |false=>exact⟨_,by simp only[go_sem,c54L0b,hg,hia,hi',hwr,c1,Ga.enc,NL.enc,h0,h1,rL,slS,ZWQ,beq_self_eq_true,ZWV,cond_false];rfl,by simp only[go_sem]⟩
   |true=>
   cases c2:x.Ld==-1 with
   |false=>exact⟨_,by simp only[go_sem,c54L0b,hg,hia,hi',hwr,c1,c2,Ga.enc,NL.enc,h0,h1,rL,slS,ZWQ,beq_self_eq_true,ZWX,cond_false];rfl,by simp only[go_sem]⟩
   |true=>exact⟨_,by simp only[go_sem,c54L0b,hg,hia,hi',hwr,c1,c2,hE,Ga.enc,NL.enc,h0,h1,rL,slS,ZWQ,beq_self_eq_true,ZX8,cond_true];rfl,by simp only[go_sem]⟩)
  (e:=.exit 1) (fr:=[(0,.ptr 9 0 0 1),(5,evI w.e),(17,I w.s.Bc.length)]) (h:=rL x0 x1 (Y6 w w.s.Bc w.s.Bc.length).s [])
  (by
   have hdl:=(FF w w.s.Bc w.s.Bc.length).2.1;generalize Y6 w w.s.Bc w.s.Bc.length=W at hdl⊢;rw[<-hdl];simp only[go_sem,c54L0b,ZG,h0,h1,ZWQ,beq_self_eq_true]) (by simp)
 exact⟨_,L⟩
def ZVA(x0 x1:AObj)(h0:∀n,Zj n x0=true)(h1:∀n,10<=n->Zj n x1=true)(w:Wk)(hw:WkS w):∀k at',chN w.s k at'=true->
 ∃fr',Zg rE [0,5,18] c54L1b [(0,.ptr 9 0 0 1),(5,evI w.e),(18,I at')] (rL x0 x1 w.s [])=some (if WN w.s w.e.B (k+1) at'=true then .ret else .exit 3,fr',rL x0 x1 w.s [])/\
  (WN w.s w.e.B (k+1) at'=true->get fr' 6=.int .i64 12)/\(WN w.s w.e.B (k+1) at'=false->get fr' 0=.ptr 9 0 0 1/\get fr' 5=evI w.e/\get fr' 6=.bot):=by
 intro k;induction k with
 |zero=>
  intro at' hc;have g1:decide (at'>=0)=false:=by simpa[chN]using hc
  have g2:WN w.s w.e.B (0+1) at'=false:=by rw[WN,g1];rfl
  rw[g2];refine⟨_,Q7 rfl (by simp only[go_sem,c54L1b,g1,h0,h1];rfl) (by simp),λh=>(by cases h),λ_=>⟨?_,?_,?_⟩⟩<;>simp only[go_sem]
 |succ k ih=>
  intro at' hc;rw[WN];cases g1:decide (at'>=0)with
  |false=>
   rw[cond_false];refine⟨_,Q7 rfl (by simp only[go_sem,c54L1b,g1,h0,h1];rfl) (by simp),λh=>(by cases h),λ_=>⟨?_,?_,?_⟩⟩<;>simp only[go_sem]
  |true=>
   rw[cond_true];cases g2:at'==w.e.B with
   |true=>
    rw[cond_true];refine⟨_,Q7 rfl (by simp only[go_sem,c54L1b,g1,g2,h0,h1];rfl) (by simp),λ_=>?_,λh=>(by cases h)⟩
    simp only[go_sem]
   |false=>
    rw[cond_false];have hc':chN w.s k (XJ w.s at')=true:=by
     rw[chN,g1,cond_true]at hc;exact hc
    have ht:=ZQi true w.s hw.s at';obtain⟨fr',g3,g4⟩:=ih (XJ w.s at') hc';refine⟨fr',?_,g4⟩;rw[<-g3];exact(Yt rfl (by simp only[go_sem,c54L1b,g1,g2,ht,h0,h1];rfl)).trans (by simp only[go_sem])
def ZVB(x0 x1:AObj)(h0:∀n,Zj n x0=true)(h1:∀n,10<=n->Zj n x1=true)(w:Wk)(hw:WkS w)(hn:w.kn=Qp w.s)(hk:w.e.bq=8):
 ∃s' t,fnV rE 54 [.ptr 9 0 0 1,I w.owner,evA w.e] (rL x0 x1 w.s [])=some (I<|Q1 w,rL x0 x1 s' t)/\RT2 t/\((Q1 w==0)=true->s'=(stepW w).s):=by
 have q1:(w.e.bq==1)=false:=by rw[hk];rfl
 have q2:(w.e.bq==2)=false:=by rw[hk];rfl
 have q3:(w.e.bq==3)=false:=by rw[hk];rfl
 have q4:(w.e.bq==4)=false:=by rw[hk];rfl
 have q5:(w.e.bq==5)=false:=by rw[hk];rfl
 have q6:(w.e.bq==6)=false:=by rw[hk];rfl
 have q7:(w.e.bq==7)=false:=by rw[hk];rfl
 have q8:(w.e.bq==8)=true:=by rw[hk];rfl
 have eE:Q1 w=HD w:=by unfold Q1;rw[hk];rfl
 have eW:stepW w=NY w:=by unfold stepW;rw[hk];rfl
 rw[eE,eW,Q6 (f:=54) rfl rfl];obtain⟨s',hs,hz⟩:=ZVe x0 x1 h0 h1 w hw;simp only[rL,slS]at hs;exact⟨s',[],by simp only[go_sem,c54,q1,q2,q3,q4,q5,q6,q7,q8,hs,h0,h1,ZWQ,ZXc,ZX7,ZXh,ZX4,ZX3,ZX1,ZX6,rL,slS,beq_self_eq_true,ZWS,ZWU,ZWY,ZXa,ZWZ,ZX9,ZXd,ZWR,ZWV,ZWW,ZWX,ZX8,cond_true,cond_false],Or.inl rfl,hz⟩
def ZVC(x0 x1:AObj)(h0:∀n,Zj n x0=true)(h1:∀n,10<=n->Zj n x1=true)(w:Wk)(hw:WkS w)(hn:w.kn=Qp w.s)(hN:(Qp w.s).Nodup)(hk:w.e.bq=12):
 ∃s' t,fnV rE 54 [.ptr 9 0 0 1,I w.owner,evA w.e] (rL x0 x1 w.s [])=some (I<|Q1 w,rL x0 x1 s' t)/\RT2 t/\((Q1 w==0)=true->s'=(stepW w).s):=by
 have q1:(w.e.bq==1)=false:=by rw[hk];rfl
 have q2:(w.e.bq==2)=false:=by rw[hk];rfl
 have q3:(w.e.bq==3)=false:=by rw[hk];rfl
 have q4:(w.e.bq==4)=false:=by rw[hk];rfl
 have q5:(w.e.bq==5)=false:=by rw[hk];rfl
 have q6:(w.e.bq==6)=false:=by rw[hk];rfl
 have q7:(w.e.bq==7)=false:=by rw[hk];rfl
 have q8:(w.e.bq==8)=false:=by rw[hk];rfl
 have q9:(w.e.bq==9)=false:=by rw[hk];rfl
 have q10:(w.e.bq==10)=false:=by rw[hk];rfl
 have q11:(w.e.bq==11)=false:=by rw[hk];rfl
 have q12:(w.e.bq==12)=true:=by rw[hk];rfl
 have eE:Q1 w=Hw w:=by unfold Q1;rw[hk];rfl
 have eW:stepW w=Hy w:=by unfold stepW;rw[hk];rfl
 rw[eE,eW,Q6 (f:=54) rfl rfl];obtain⟨s',hs,hz⟩:=ZVq x0 x1 h0 h1 w hw hn hN;simp only[rL,slS]at hs;exact⟨s',[],by simp only[go_sem,c54,q1,q2,q3,q4,q5,q6,q7,q8,q9,q10,q11,q12,hs,h0,h1,ZWQ,ZXc,ZX7,ZXh,ZX4,ZX3,ZX1,ZX6,rL,slS,beq_self_eq_true,ZWS,ZWU,ZWY,ZXa,ZWZ,ZX9,ZXd,ZWR,ZWV,ZWW,ZWX,ZX8,cond_true,cond_false],Or.inl rfl,hz⟩
def ZVD(x0 x1:AObj)(h0:∀n,Zj n x0=true)(h1:∀n,10<=n->Zj n x1=true)(w:Wk)(hw:WkS w)(hn:w.kn=Qp w.s)(hk:w.e.bq=9):
 ∃s' t,fnV rE 54 [.ptr 9 0 0 1,I w.owner,evA w.e] (rL x0 x1 w.s [])=some (I<|Q1 w,rL x0 x1 s' t)/\RT2 t/\((Q1 w==0)=true->s'=(stepW w).s):=by
 have q1:(w.e.bq==1)=false:=by rw[hk];rfl
 have q2:(w.e.bq==2)=false:=by rw[hk];rfl
 have q3:(w.e.bq==3)=false:=by rw[hk];rfl
 have q4:(w.e.bq==4)=false:=by rw[hk];rfl
 have q5:(w.e.bq==5)=false:=by rw[hk];rfl
 have q6:(w.e.bq==6)=false:=by rw[hk];rfl
 have q7:(w.e.bq==7)=false:=by rw[hk];rfl
 have q8:(w.e.bq==8)=false:=by rw[hk];rfl
 have q9:(w.e.bq==9)=true:=by rw[hk];rfl
 have eE:Q1 w=Ka w:=by unfold Q1;rw[hk];rfl
 have eW:stepW w=Kb w:=by unfold stepW;rw[hk];rfl
 rw[eE,eW,Q6 (f:=54) rfl rfl];obtain⟨s',t,hs,ht,hz⟩:=ZVh x0 x1 h0 h1 w hw hn;simp only[rL,slS]at hs;rcases ht with rfl|⟨x,rfl⟩<;>exact⟨s',[],by simp only[go_sem,c54,q1,q2,q3,q4,q5,q6,q7,q8,q9,hs,h0,h1,ZWQ,ZXc,ZX7,ZXh,ZX4,ZX3,ZX1,ZX6,rL,slS,beq_self_eq_true,ZWS,ZWU,ZWY,ZXa,ZWZ,ZX9,ZXd,ZWR,ZWV,ZWW,ZWX,ZX8,cond_true,cond_false],Or.inl rfl,hz⟩
def ZVE(x0 x1:AObj)(h0:∀n,Zj n x0=true)(h1:∀n,10<=n->Zj n x1=true)(w:Wk)(hw:WkS w)(hn:w.kn=Qp w.s)(hd:w.s.Bc.length<=900)(hne:0<w.e.Ids.l.length)(hk:w.e.bq=10):
 ∃s' t,fnV rE 54 [.ptr 9 0 0 1,I w.owner,evA w.e] (rL x0 x1 w.s [])=some (I<|Q1 w,rL x0 x1 s' t)/\RT2 t/\((Q1 w==0)=true->s'=(stepW w).s):=by
 have q1:(w.e.bq==1)=false:=by rw[hk];rfl
 have q2:(w.e.bq==2)=false:=by rw[hk];rfl
 have q3:(w.e.bq==3)=false:=by rw[hk];rfl
 have q4:(w.e.bq==4)=false:=by rw[hk];rfl
 have q5:(w.e.bq==5)=false:=by rw[hk];rfl
 have q6:(w.e.bq==6)=false:=by rw[hk];rfl
 have q7:(w.e.bq==7)=false:=by rw[hk];rfl
 have q8:(w.e.bq==8)=false:=by rw[hk];rfl
 have q9:(w.e.bq==9)=false:=by rw[hk];rfl
 have q10:(w.e.bq==10)=true:=by rw[hk];rfl
 have eE:Q1 w=Kc w:=by unfold Q1;rw[hk];rfl
 have eW:stepW w=Kd w:=by unfold stepW;rw[hk];rfl
 rw[eE,eW,Q6 (f:=54) rfl rfl];obtain⟨s',t,hs,ht,hz⟩:=ZVo x0 x1 h0 h1 w hw hn hd hne;simp only[rL,slS]at hs;rcases ht with rfl|⟨x,rfl⟩<;>exact⟨s',[],by simp only[go_sem,c54,q1,q2,q3,q4,q5,q6,q7,q8,q9,q10,hs,h0,h1,ZWQ,ZXc,ZX7,ZXh,ZX4,ZX3,ZX1,ZX6,rL,slS,beq_self_eq_true,ZWS,ZWU,ZWY,ZXa,ZWZ,ZX9,ZXd,ZWR,ZWV,ZWW,ZWX,ZX8,cond_true,cond_false],Or.inl rfl,hz⟩
def ZVF(x0 x1:AObj)(h0:∀n,Zj n x0=true)(h1:∀n,10<=n->Zj n x1=true)(w:Wk)(hw:WkS w)(hn:w.kn=Qp w.s)(hp:WK w.s=true)(hk:w.e.bq=13):
 ∃s' t,fnV rE 54 [.ptr 9 0 0 1,I w.owner,evA w.e] (rL x0 x1 w.s [])=some (I<|Q1 w,rL x0 x1 s' t)/\RT2 t/\((Q1 w==0)=true->s'=(stepW w).s):=by
 have q1:(w.e.bq==1)=false:=by rw[hk];rfl
 have q2:(w.e.bq==2)=false:=by rw[hk];rfl
 have q3:(w.e.bq==3)=false:=by rw[hk];rfl
 have q4:(w.e.bq==4)=false:=by rw[hk];rfl
 have q5:(w.e.bq==5)=false:=by rw[hk];rfl
 have q6:(w.e.bq==6)=false:=by rw[hk];rfl
 have q7:(w.e.bq==7)=false:=by rw[hk];rfl
 have q8:(w.e.bq==8)=false:=by rw[hk];rfl
 have q9:(w.e.bq==9)=false:=by rw[hk];rfl
 have q10:(w.e.bq==10)=false:=by rw[hk];rfl
 have q11:(w.e.bq==11)=false:=by rw[hk];rfl
 have q12:(w.e.bq==12)=false:=by rw[hk];rfl
 have q13:(w.e.bq==13)=true:=by rw[hk];rfl
 have z11:((11:Int)==0)=false:=rfl;have z12:((12:Int)==0)=false:=rfl;have ht:=ZQi true w.s hw.s w.e.B;obtain⟨fr',l1,p1,p2⟩:=ZVA x0 x1 h0 h1 w hw (w.s.Gc.length+1) w.e.A<|Z3L w.s hp w.e.A;have eE:Q1 w=Hn w:=by unfold Q1;rw[hk];rfl
 have eW:stepW w=Ho w:=by unfold stepW;rw[hk];rfl
 rw[eE,eW,Q6 (f:=54) rfl rfl];have hap:=λh aid(hb:h[7]?=_)=>ZOI (h:=h) (aid:=aid) (fz:=false) (b:=7) (g:=w.s.Gc.length) (sz:=2) (es:=w.s.Gc.map bf.enc) (bw:=false) (ex:=false) (ys:=[((⟨w.e.A,w.e.B⟩:bf)).enc]) (bytes:=16) hb (by simp) rfl (by rfl) (by omega) (by omega) (by have:=hw.s.merged;simp;omega)
 have hap2:=λh(hb:rowAt h 7 w.s.Gc.length=_)=>XC (h:=h) (fz:=false) (b:=7) (g:=w.s.Gc.length) (sz:=2) (es:=w.s.Gc.map bf.enc) (bw:=false) (ex:=false) (ys:=[((⟨w.e.A,w.e.B⟩:bf)).enc]) (bytes:=16) hb rfl (by rfl) (by omega) (by omega) (by have:=hw.s.merged;simp;omega)
 have hap:=λaid=>hap (rL x0 x1 w.s []) aid rfl
 have hap2:=hap2 (rL x0 x1 w.s [])<|by simp[rowAt]
 simp only[rL,slS,bf.enc,NL.enc,ZX1]at hap hap2;unfold Hn;simp only[rL,slS]at l1;cases c1:decide (XJ w.s w.e.B>=0)with
 |true=>exact⟨w.s,[],by simp only[go_sem,c54,q1,q2,q3,q4,q5,q6,q7,q8,q9,q10,q11,q12,q13,ht,c1,h0,h1,ZWQ,ZXc,ZX7,ZXh,ZX4,ZX3,ZX1,ZX6,rL,slS,beq_self_eq_true,ZWS,ZWU,ZWY,ZXa,ZWZ,ZX9,ZXd,ZWR,ZWV,ZWW,ZWX,ZX8,cond_true,cond_false],Or.inl rfl,λh=>by simp[z11]at h⟩
 |false=>
 have e:w.s.Gc.length+2=w.s.Gc.length+1+1:=rfl;rw[e];cases c2:WN w.s w.e.B (w.s.Gc.length+1+1) w.e.A with
 |true=>
  rw[c2,if_pos rfl]at l1;have m6:=p1 c2;exact⟨w.s,[],by simp only[go_sem,c54,q1,q2,q3,q4,q5,q6,q7,q8,q9,q10,q11,q12,q13,c54L1,ht,c1,l1,m6,h0,h1,ZWQ,ZXc,ZX7,ZXh,ZX4,ZX3,ZX1,ZX6,rL,slS,beq_self_eq_true,ZWS,ZWU,ZWY,ZXa,ZWZ,ZX9,ZXd,ZWR,ZWV,ZWW,ZWX,ZX8,cond_true,cond_false],Or.inl rfl,λh=>by simp[z12]at h⟩
 |false=>
  rw[c2]at l1;obtain⟨m0,m5,m6⟩:=p2 c2;exact⟨(Ho w).s,[],by simp only[go_sem,c54,q1,q2,q3,q4,q5,q6,q7,q8,q9,q10,q11,q12,q13,c54L1,ht,c1,l1,m0,m5,m6,hap,hap2,Ho,bf.enc,ZX2,if_false,h0,h1,ZWQ,ZXc,ZX7,ZXh,ZX4,ZX3,ZX1,ZX6,rL,slS,beq_self_eq_true,ZWS,ZWU,ZWY,ZXa,ZWZ,ZX9,ZXd,ZWR,ZWV,ZWW,ZWX,ZX8,cond_true,cond_false],Or.inl rfl,λ_=>rfl⟩
def ZVG(x0 x1:AObj)(h0:∀n,Zj n x0=true)(h1:∀n,10<=n->Zj n x1=true)(w:Wk)(hw:WkS w)(hn:w.kn=Qp w.s)(hk:w.e.bq=11):
 ∃s' t,fnV rE 54 [.ptr 9 0 0 1,I w.owner,evA w.e] (rL x0 x1 w.s [])=some (I<|Q1 w,rL x0 x1 s' t)/\RT2 t/\((Q1 w==0)=true->s'=(stepW w).s):=by
 have q1:(w.e.bq==1)=false:=by rw[hk];rfl
 have q2:(w.e.bq==2)=false:=by rw[hk];rfl
 have q3:(w.e.bq==3)=false:=by rw[hk];rfl
 have q4:(w.e.bq==4)=false:=by rw[hk];rfl
 have q5:(w.e.bq==5)=false:=by rw[hk];rfl
 have q6:(w.e.bq==6)=false:=by rw[hk];rfl
 have q7:(w.e.bq==7)=false:=by rw[hk];rfl
 have q8:(w.e.bq==8)=false:=by rw[hk];rfl
 have q9:(w.e.bq==9)=false:=by rw[hk];rfl
 have q10:(w.e.bq==10)=false:=by rw[hk];rfl
 have q11:(w.e.bq==11)=true:=by rw[hk];rfl
 have z10:((10:Int)==0)=false:=rfl;have z11:((11:Int)==0)=false:=rfl;have hb:=ZPK true w.s hw.s w.e.Id;have eE:Q1 w=Hs w:=by unfold Q1;rw[hk];rfl
 have eW:stepW w=Ht w:=by unfold stepW;rw[hk];rfl
 rw[eE,eW,Q6 (f:=54) rfl rfl];unfold Hs Ht;cases c1:decide (Y1 w.s w.e.Id<0)with
 |true=>exact⟨w.s,[],by simp only[go_sem,c54,q1,q2,q3,q4,q5,q6,q7,q8,q9,q10,q11,hb,c1,h0,h1,ZWQ,ZXc,ZX7,ZXh,ZX4,ZX3,ZX1,ZX6,rL,slS,beq_self_eq_true,ZWS,ZWU,ZWY,ZXa,ZWZ,ZX9,ZXd,ZWR,ZWV,ZWW,ZWX,ZX8,cond_true,cond_false],Or.inl rfl,λh=>by simp[z10]at h⟩
 |false=>
 obtain⟨j,x,hj,hx⟩:=QC c1;have hj':Y1 w.s w.e.Id=(j:Int):=hj;have hzj:decide ((j:Int)<0)=false:=by rw[<-hj'];exact c1
 have hg:=Z6 (f:=Ev.enc) hx;have hij:=ZO4 4 4 j (es:=w.s.Bt.map Ev.enc) (n:=w.s.Bt.length) (by simp)<|Z7 hx
 have hE:WL w.s (j:Int)=x.Ld:=by simp[WL,hx]
 rw[hj']at hb⊢;rw[hE,ZXI,YA hx];cases c2:x.Ld != -1 with
 |true=>exact⟨w.s,[],by simp only[go_sem,c54,q1,q2,q3,q4,q5,q6,q7,q8,q9,q10,q11,hb,hzj,hg,hij,c2,Ev.enc,NL.enc,h0,h1,ZWQ,ZXc,ZX7,ZXh,ZX4,ZX3,ZX1,ZX6,rL,slS,beq_self_eq_true,ZWS,ZWU,ZWY,ZXa,ZWZ,ZX9,ZXd,ZWR,ZWV,ZWW,ZWX,ZX8,cond_true,cond_false],Or.inl rfl,λh=>by simp[z11]at h⟩
 |false=>
 obtain⟨f1,l1⟩:=ZVz x0 x1 h0 h1 (JH w<|w.s.Bt.set j<|Ke w.e x) hw.s.units hw.s.doors;have hdd:(JH w<|w.s.Bt.set j<|Ke w.e x).s.Bc=w.s.Bc:=rfl;rw[hdd]at l1;generalize Y6 (JH w<|w.s.Bt.set j<|Ke w.e x) w.s.Bc w.s.Bc.length=W2 at l1⊢;simp only[rL,slS,JH,Ke,ZX6,Ev.enc,NL.enc,ZXc]at l1;exact⟨W2.s,[],by simp only[go_sem,c54,q1,q2,q3,q4,q5,q6,q7,q8,q9,q10,q11,c54L0,hb,hzj,hg,hij,c2,l1,Ev.enc,NL.enc,h0,h1,ZWQ,ZXc,ZX7,ZXh,ZX4,ZX3,ZX1,ZX6,rL,slS,beq_self_eq_true,ZWS,ZWU,ZWY,ZXa,ZWZ,ZX9,ZXd,ZWR,ZWV,ZWW,ZWX,ZX8,cond_true,cond_false],Or.inl rfl,λ_=>rfl⟩
def ZVH(x0 x1:AObj)(h0:∀n,Zj n x0=true)(h1:∀n,10<=n->Zj n x1=true)(w:Wk)(hw:WkS w)(hn:w.kn=Qp w.s)(hk:w.e.bq=4):
 ∃s' t,fnV rE 54 [.ptr 9 0 0 1,I w.owner,evA w.e] (rL x0 x1 w.s [])=some (I<|Q1 w,rL x0 x1 s' t)/\RT2 t/\((Q1 w==0)=true->s'=(stepW w).s):=by
 have q1:(w.e.bq==1)=false:=by rw[hk];rfl
 have q2:(w.e.bq==2)=false:=by rw[hk];rfl
 have q3:(w.e.bq==3)=false:=by rw[hk];rfl
 have q4:(w.e.bq==4)=true:=by rw[hk];rfl
 have z10:((10:Int)==0)=false:=rfl;have z11:((11:Int)==0)=false:=rfl;have hr:=ZOQ true w.s hw.s w.e.Id;have ht:=ZOQ true w.s hw.s w.e.br;have eE:Q1 w=Hm w:=by unfold Q1;rw[hk];rfl
 have eW:stepW w=exW w:=by unfold stepW;rw[hk];rfl
 rw[eE,eW,Q6 (f:=54) rfl rfl];unfold Hm exW;cases c1:decide (ZL w.s w.e.Id<0)with
 |true=>exact⟨w.s,[],by simp only[go_sem,c54,q1,q2,q3,q4,hr,ht,c1,h0,h1,ZWQ,ZXc,ZX7,ZXh,ZX4,ZX3,ZX1,ZX6,rL,slS,beq_self_eq_true,ZWS,ZWU,ZWY,ZXa,ZWZ,ZX9,ZXd,ZWR,ZWV,ZWW,ZWX,ZX8,cond_true,cond_false],Or.inl rfl,λh=>by simp[z10]at h⟩
 |false=>
 cases c2:decide (ZL w.s w.e.br<0)with
 |true=>exact⟨w.s,[],by simp only[go_sem,c54,q1,q2,q3,q4,hr,ht,c1,c2,h0,h1,ZWQ,ZXc,ZX7,ZXh,ZX4,ZX3,ZX1,ZX6,rL,slS,beq_self_eq_true,ZWS,ZWU,ZWY,ZXa,ZWZ,ZX9,ZXd,ZWR,ZWV,ZWW,ZWX,ZX8,cond_true,cond_false],Or.inl rfl,λh=>by simp[z10]at h⟩
 |false=>
 obtain⟨j,x,hj,hx⟩:=QC c1;have hj':ZL w.s w.e.Id=(j:Int):=hj;have hzj:decide ((j:Int)<0)=false:=by rw[<-hj'];exact c1
 have hg:=Z6 (f:=By.enc) hx;have hij:=ZO4 3 5 j (es:=w.s.Gm.map By.enc) (n:=w.s.Gm.length) (by simp)<|Z7 hx
 obtain⟨k,y,hk,hy⟩:=QC c2;have hk':ZL w.s w.e.br=(k:Int):=hk;have hzk:decide ((k:Int)<0)=false:=by rw[<-hk'];exact c2
 have ht2:=Z6 (f:=By.enc) hy;have hik:=ZO4 3 5 k (es:=w.s.Gm.map By.enc) (n:=w.s.Gm.length) (by simp)<|Z7 hy
 have hE:QF w.s (j:Int)=x.Ld:=by simp[QF,hx]
 have hF:QF w.s (k:Int)=y.Ld:=by simp[QF,hy]
 have hN:JF w.s j=x.bk:=by simp[JF,hx]
 have hM:JF w.s k=y.bk:=by simp[JF,hy]
 rw[hj']at hr⊢;rw[hk']at ht⊢;rw[hE,hF,ZXI,ZXI,hN,hM,YA hx];cases c3:x.Ld != -1 with
 |true=>exact⟨w.s,[],by simp only[go_sem,c54,q1,q2,q3,q4,hr,ht,hzj,hzk,hg,hij,hik,ht2,c3,By.enc,NL.enc,h0,h1,ZWQ,ZXc,ZX7,ZXh,ZX4,ZX3,ZX1,ZX6,rL,slS,beq_self_eq_true,ZWS,ZWU,ZWY,ZXa,ZWZ,ZX9,ZXd,ZWR,ZWV,ZWW,ZWX,ZX8,cond_true,cond_false],Or.inl rfl,λh=>by simp[z11]at h⟩
 |false=>
 cases c4:y.Ld != -1 with
 |true=>exact⟨w.s,[],by simp only[go_sem,c54,q1,q2,q3,q4,hr,ht,hzj,hzk,hg,hij,hik,ht2,c3,c4,By.enc,NL.enc,h0,h1,ZWQ,ZXc,ZX7,ZXh,ZX4,ZX3,ZX1,ZX6,rL,slS,beq_self_eq_true,ZWS,ZWU,ZWY,ZXa,ZWZ,ZX9,ZXd,ZWR,ZWV,ZWW,ZWX,ZX8,cond_true,cond_false],Or.inl rfl,λh=>by simp[z11]at h⟩
 |false=>
 have hik2:=λv=>ZO4 3 5 k (es:=(w.s.Gm.map By.enc).set j v) (n:=w.s.Gm.length) (by simp)<|Z7 hy
 by_cases hjk:j=k
 .subst hjk;have hxy:x=y:=by rw[hx]at hy;exact Option.some.inj hy
  subst hxy;have hset:∀v,((w.s.Gm.map By.enc).set j v)[j]?=some v:=λv=>by simp[Z7 hx]
  rw[YA (x:=XN x.bk x)<|by simp[Z7 hx]]
  exact⟨_,[],by simp only[go_sem,c54,q1,q2,q3,q4,hr,ht,hzj,hg,hij,hik2,hset,c3,XN,By.enc,NL.enc,ZXY,h0,h1,ZWQ,ZXc,ZX7,ZXh,ZX4,ZX3,ZX1,ZX6,rL,slS,beq_self_eq_true,ZWS,ZWU,ZWY,ZXa,ZWZ,ZX9,ZXd,ZWR,ZWV,ZWW,ZWX,ZX8,cond_true,cond_false],Or.inl rfl,λ_=>rfl⟩
 .have hset:∀v,((w.s.Gm.map By.enc).set j v)[k]?=some y.enc:=λv=>by rw[ZZl hjk];exact ht2
  rw[YA (x:=y)<|by rw[ZZl hjk];exact hy]
  simp only[By.enc]at hset;exact⟨_,[],by simp only[go_sem,c54,q1,q2,q3,q4,hr,ht,hzj,hzk,hg,hij,hik,hik2,hset,ht2,c3,c4,XN,By.enc,NL.enc,h0,h1,ZWQ,ZXc,ZX7,ZXh,ZX4,ZX3,ZX1,ZX6,rL,slS,beq_self_eq_true,ZWS,ZWU,ZWY,ZXa,ZWZ,ZX9,ZXd,ZWR,ZWV,ZWW,ZWX,ZX8,cond_true,cond_false],Or.inl rfl,λ_=>rfl⟩
def wE(e:Bool)(b:Nat):Option Nat:=bif e then none else some b
def ZVI(e a1 a2:Bool)(r1 r2:List Nat)(b:Nat)(k1 k2:Option<|AV×AV)(h:(!a2&&!r2.contains b)=true):Qy ⟨a1,r1,wE e b,k1⟩ ⟨a2,r2,none,k2⟩=true:=by
 cases e<;>simp_all[Qy,wE]
def ZVJ(e a1 a2:Bool)(r1 r2:List Nat)(b:Nat)(k1 k2:Option<|AV×AV)(h:(!a1&&!r1.contains b)=true):Qy ⟨a1,r1,none,k1⟩ ⟨a2,r2,wE e b,k2⟩=true:=by
 cases e<;>simp_all[Qy,wE]
def ZVK(e a1 a2:Bool)(r1 r2:List Nat)(b c:Nat)(k1 k2:Option<|AV×AV)(h:(!a2&&!r2.contains b)=true)(h2:(!a1&&!r1.contains c)=true)(h3:(c==b)=false):Qy ⟨a1,r1,wE e b,k1⟩ ⟨a2,r2,some c,k2⟩=true:=by
 cases e<;>simp_all[Qy,wE]
def ZVL(e a1 a2:Bool)(r1 r2:List Nat)(b c:Nat)(k1 k2:Option<|AV×AV)(h:(!a2&&!r2.contains b)=true)(h2:(!a1&&!r1.contains c)=true)(h3:(c==b)=false):Qy ⟨a1,r1,some b,k1⟩ ⟨a2,r2,wE e c,k2⟩=true:=by
 cases e<;>simp_all[Qy,wE]
def ZVM(e f a1 a2:Bool)(r1 r2:List Nat)(b c:Nat)(k1 k2:Option<|AV×AV)(h:(!a2&&!r2.contains b)=true)(h2:(!a1&&!r1.contains c)=true)(h3:(c==b)=false):Qy ⟨a1,r1,wE e b,k1⟩ ⟨a2,r2,wE f c,k2⟩=true:=by
 cases e<;>cases f<;>simp_all[Qy,wE]
def ZVN(v:AV)(rs:List Nat)(e:Bool)(b:Nat)(o:AObj):wrB (some (v,rs,bif e then none else some (b,o)))=wE e b:=by cases e<;>rfl
def ZOS{h:Hp}{aid b sz bytes:Nat}{ys:List AV}{bw ex:Bool}(hb:h[b]?=some (.row sz []))(hf:ys.all (fits sz)=true)(h0:0<sz)(h1:0<bytes)(h2:ys.length*bytes<=140737488355328):
 Qt h aid false sz bytes (.sl b 0 0 0 false) (.isl bw ex sz ys)=some (.sl b ys.length 0 ys.length false,[b],bif ys.isEmpty then none else some (b,.row sz ys)):=by
 have e2:(0+ys.length)*bytes<=140737488355328:=by rw[ZXf];exact h2
 have e3:(([]:List AV).length==0)=true:=rfl;simp only[Qt,Q2,hb,e3,cond_true,ZXO,List.take_nil,Qq,beq_self_eq_true,ZWY,h0,h1,hf,ZX8,ZXm,Zs,ZXf];rw[ZXt,if_pos ⟨trivial,trivial,trivial,trivial,e2⟩];cases hy:ys.isEmpty with
 |true=>rw[ZYR.1 hy];rfl
 |false=>rfl
def ZP4{h:Hp}{b sz bytes:Nat}{ys:List AV}{bw ex:Bool}(hb:h[b]?=some (.row sz []))(hf:ys.all (fits sz)=true)(h0:0<sz)(h1:0<bytes)(h2:ys.length*bytes<=140737488355328):
 appW h false sz bytes (.sl b 0 0 0 false) (.isl bw ex sz ys)=some (.sl b ys.length 0 ys.length false,setH h b<|.row sz ys):=by
 rw[appW,ZOS hb hf h0 h1 h2,ZM];cases hy:ys.isEmpty with
 |true=>
  have hl:=Z7 hb;rw[ZYR.1 hy];have hx:h[b]=.row sz []:=by rw[ZX5 hl]at hb;exact Option.some.inj hb
  have hB:Nat.blt b h.length=true:=by simp[ZXT,hl]
  simp only[cond_true,ZH,setH,hB];rw[<-hx,ZZk]
 |false=>rfl
def ZVO(sz:Nat)(ex:Bool)(z:AV)(fr:Fr)(h:Hp)(hz:fits sz z=true):Za rE (.bsl false ex sz z 0 []) fr h=⟨false,[],some h.length,none⟩:=by
 simp only[Za,Z8,List.replicate_zero,ZX1,YC,hz,cond_true,cond_false];rfl
attribute [go_sem] ZVI ZVJ ZVK ZVL ZVM ZVN ZVO
def ZVP(x0:AObj)(h0:∀n,Zj n x0=true)(s:Sta)(hs:StS s):fnV rE 53 [stA s] [x0]=some (.agg<|slS s,[x0,.row 7 [.agg<|slS s],.row 6<|s.Fa.map Gk.enc,.row 5<|s.Gm.map By.enc,.row 4<|s.Bt.map Ev.enc,.row 16<|s.Bc.map Ga.enc,.row 6<|s.Nk.map be.enc,.row 2<|s.Gc.map bf.enc,.row 2<|s.ba.map bf.enc]):=by
 have a2:=λh aid(hb:h[2]?=_)=>ZOS (h:=h) (aid:=aid) (b:=2) (sz:=6) (bytes:=88) (ys:=s.Fa.map Gk.enc) (bw:=false) (ex:=false) hb (Xj (λ_=>rfl) _) (by omega) (by omega) (by have:=hs.regions;simp;omega)
 have b2:=λh(hb:h[2]?=_)=>ZP4 (h:=h) (b:=2) (sz:=6) (bytes:=88) (ys:=s.Fa.map Gk.enc) (bw:=false) (ex:=false) hb (Xj (λ_=>rfl) _) (by omega) (by omega) (by have:=hs.regions;simp;omega)
 have a3:=λh aid(hb:h[3]?=_)=>ZOS (h:=h) (aid:=aid) (b:=3) (sz:=5) (bytes:=80) (ys:=s.Gm.map By.enc) (bw:=false) (ex:=false) hb (Xj (λ_=>rfl) _) (by omega) (by omega) (by have:=hs.streets;simp;omega)
 have b3:=λh(hb:h[3]?=_)=>ZP4 (h:=h) (b:=3) (sz:=5) (bytes:=80) (ys:=s.Gm.map By.enc) (bw:=false) (ex:=false) hb (Xj (λ_=>rfl) _) (by omega) (by omega) (by have:=hs.streets;simp;omega)
 have a4:=λh aid(hb:h[4]?=_)=>ZOS (h:=h) (aid:=aid) (b:=4) (sz:=4) (bytes:=56) (ys:=s.Bt.map Ev.enc) (bw:=false) (ex:=false) hb (Xj (λ_=>rfl) _) (by omega) (by omega) (by have:=hs.buildings;simp;omega)
 have b4:=λh(hb:h[4]?=_)=>ZP4 (h:=h) (b:=4) (sz:=4) (bytes:=56) (ys:=s.Bt.map Ev.enc) (bw:=false) (ex:=false) hb (Xj (λ_=>rfl) _) (by omega) (by omega) (by have:=hs.buildings;simp;omega)
 have a5:=λh aid(hb:h[5]?=_)=>ZOS (h:=h) (aid:=aid) (b:=5) (sz:=16) (bytes:=184) (ys:=s.Bc.map Ga.enc) (bw:=false) (ex:=false) hb (Xj (λ_=>rfl) _) (by omega) (by omega) (by have:=hs.doors;simp;omega)
 have b5:=λh(hb:h[5]?=_)=>ZP4 (h:=h) (b:=5) (sz:=16) (bytes:=184) (ys:=s.Bc.map Ga.enc) (bw:=false) (ex:=false) hb (Xj (λ_=>rfl) _) (by omega) (by omega) (by have:=hs.doors;simp;omega)
 have a6:=λh aid(hb:h[6]?=_)=>ZOS (h:=h) (aid:=aid) (b:=6) (sz:=6) (bytes:=72) (ys:=s.Nk.map be.enc) (bw:=false) (ex:=false) hb (Xj (λ_=>rfl) _) (by omega) (by omega) (by have:=hs.units;simp;omega)
 have b6:=λh(hb:h[6]?=_)=>ZP4 (h:=h) (b:=6) (sz:=6) (bytes:=72) (ys:=s.Nk.map be.enc) (bw:=false) (ex:=false) hb (Xj (λ_=>rfl) _) (by omega) (by omega) (by have:=hs.units;simp;omega)
 have a7:=λh aid(hb:h[7]?=_)=>ZOS (h:=h) (aid:=aid) (b:=7) (sz:=2) (bytes:=16) (ys:=s.Gc.map bf.enc) (bw:=false) (ex:=false) hb (Xj (λ_=>rfl) _) (by omega) (by omega) (by have:=hs.merged;simp;omega)
 have b7:=λh(hb:h[7]?=_)=>ZP4 (h:=h) (b:=7) (sz:=2) (bytes:=16) (ys:=s.Gc.map bf.enc) (bw:=false) (ex:=false) hb (Xj (λ_=>rfl) _) (by omega) (by omega) (by have:=hs.merged;simp;omega)
 have a8:=λh aid(hb:h[8]?=_)=>ZOS (h:=h) (aid:=aid) (b:=8) (sz:=2) (bytes:=16) (ys:=s.ba.map bf.enc) (bw:=false) (ex:=false) hb (Xj (λ_=>rfl) _) (by omega) (by omega) (by have:=hs.rulings;simp;omega)
 have b8:=λh(hb:h[8]?=_)=>ZP4 (h:=h) (b:=8) (sz:=2) (bytes:=16) (ys:=s.ba.map bf.enc) (bw:=false) (ex:=false) hb (Xj (λ_=>rfl) _) (by omega) (by omega) (by have:=hs.rulings;simp;omega)
 rw[Q6 (f:=53) rfl rfl];simp only[go_sem,c53,h0,a2,b2,a3,b3,a4,b4,a5,b5,a6,b6,a7,b7,a8,b8,ZWQ,slS]
def ZVQ(x0 x1:AObj)(h0:∀n,Zj n x0=true)(h1:∀n,10<=n->Zj n x1=true)(s:Sta)(hs:StF s)(a:Int)(e:Gt)(he:EvS e)(hok:okB s a e=true):
 ∃s' t,fnV rE 54 [.ptr 9 0 0 1,I a,evA e] (rL x0 x1 s [])=some (I<|Q1<|wk0 s a e,rL x0 x1 s' t)/\RT2 t/\((Q1 (wk0 s a e)==0)=true->s'=(stepW<|wk0 s a e).s):=by
 unfold okB at hok;simp only[ZWT]at hok;obtain⟨c1,c2,c3⟩:=hok;obtain⟨k,hk,hk1,hk2⟩:=Z4w e c3;have hw:=Z4s s hs a e he;obtain⟨hP,_⟩:=(Zdb s).1 c1;have hd:s.Bc.length<=900:=by have:=hs.doors;omega
 have hten:=λ(h:k=10)=>FO e c3<|by rw[<-h];exact hk
 have hk':(wk0 s a e).e.bq=(k:Int):=hk;rcases(by omega:k=1\/k=2\/k=3\/k=4\/k=5\/k=6\/k=7\/k=8\/k=9\/k=10\/k=11\/k=12\/k=13\/k=14\/k=15)with rfl|rfl|rfl|rfl|rfl|rfl|rfl|rfl|rfl|rfl|rfl|rfl|rfl|rfl|rfl
 .exact ZVx x0 x1 h0 h1 (wk0 s a e) hw rfl hk'
 .exact ZVs x0 x1 h0 h1 (wk0 s a e) hw rfl hk'
 .exact ZVy x0 x1 h0 h1 (wk0 s a e) hw hP.ids hk'
 .exact ZVH x0 x1 h0 h1 (wk0 s a e) hw rfl hk'
 .exact ZVt x0 x1 h0 h1 (wk0 s a e) hw rfl hk'
 .exact ZVw x0 x1 h0 h1 (wk0 s a e) hw rfl hk'
 .exact ZVv x0 x1 h0 h1 (wk0 s a e) hw rfl hk'
 .exact ZVB x0 x1 h0 h1 (wk0 s a e) hw rfl hk'
 .exact ZVD x0 x1 h0 h1 (wk0 s a e) hw rfl hk'
 .exact ZVE x0 x1 h0 h1 (wk0 s a e) hw rfl hd (hten rfl) hk'
 .exact ZVG x0 x1 h0 h1 (wk0 s a e) hw rfl hk'
 .exact ZVC x0 x1 h0 h1 (wk0 s a e) hw rfl hP.ids hk'
 .exact ZVF x0 x1 h0 h1 (wk0 s a e) hw rfl (Z4x s c1) hk'
 .exact ZVr x0 x1 h0 h1 (wk0 s a e) hw rfl hk'
 .exact ZVu x0 x1 h0 h1 (wk0 s a e) hw rfl hk'
def ZVR{α:Type}(f:α->AV)(l:List α):List.take l.length (l.map f)=l.map f:=ZXp<|by simp
def ZVS(s:Sta)(hs:StF s)(hR:StR s)(a:Int)(e:Gt)(he:EvQ e)(hok:okB s a e=true):pfn rE 8 [stA s,I a,evA e]=some (.tup [stA<|ZP s a e,I<|Qk s a e]):=by
 have hP:=ZQl s hR;have hO:=ZOa a;have hF:=ZSc e he;obtain⟨s',t,ha,ht,hz⟩:=ZVQ (.row 7 [.agg HE]) (.row 7 [.agg<|slS s]) (λ_=>rfl) (λn hn=>by simp[Zj,slS,bel,Zd];omega) s hs a e he.toEvS hok
 have hcl:=ZVP (.row 7 [.agg HE]) (λ_=>rfl) s hs.e.sizes
 have hok':=hok;unfold okB at hok';simp only[ZWT]at hok';obtain⟨c1,c2,c3⟩:=hok';have c2':ZD a 0 63=true:=by unfold QM at c2;simp only[ZWT]at c2;exact c2.1
 rw[c1]at hP;rw[c2']at hO;rw[c3]at hF;simp only[rL,slS]at ha hcl;unfold ZP Qk;rw[hok];rw[Z5 (f:=8) rfl rfl];cases c4:Q1 (wk0 s a e)==0 with
 |false=>
  have c4':(Q1 (wk0 s a e) != 0)=true:=by rw[bne,c4];rfl
  rcases ht with rfl|⟨x,rfl⟩<;>simp only[go_sem,c8,hP,hO,hF,hcl,ha,c4,c4',slS,ZWS,ZWR,ZWV,cond_true,cond_false,Yh,stA,ZX1]
 |true=>
 have hs':=hz c4;have z0:((0:Int)==0)=true:=rfl;have z0':((0:Int) != 0)=false:=rfl;have z8':((8:Int) != 0)=true:=rfl;have hS:=FN s hs a e he.toEvS;have hN:=ZRW true (stepW<|wk0 s a e).s hS;rw[ZS1]at hN;rw[hs']at ha;have e0:Q1 (wk0 s a e)=0:=by simpa using c4
 rw[e0]at ha;generalize stepW (wk0 s a e)=W at ha hN⊢;cases c5:Wh W.s.Bc with
 |false=>
  rw[c5]at hN;rcases ht with rfl|⟨x,rfl⟩<;>simp only[go_sem,c8,hP,hO,hF,hcl,ha,hN,z0,z0',z8',slS,ZWS,ZWU,ZWR,ZWX,cond_true,cond_false,Yh,stA,ZX1]
 |true=>
  rw[c5]at hN;rcases ht with rfl|⟨x,rfl⟩<;>simp only[go_sem,c8,hP,hO,hF,hcl,ha,hN,z0,z0',z8',slS,cR,cT,cB,cD,cU,cP,ZVR,beq_self_eq_true,ZWS,ZWU,ZWR,ZX8,cond_true,cond_false,stA,ZWQ,ZX1]
def HK(a b:List Str):Bool:=a.length==b.length&&Zu (λi x=>match b[i]? with|some y=>Z3 x y|none=>false) 0 a
def Z4L(ea eb:Bool)(a b:List Str)(ha:a.length<=1000):pfn rE 91 [.isl false ea 1<|a.map encS,.isl false eb 1<|b.map encS]=some (.bool<|HK a b):=by
 rw[Z5 (f:=91) rfl rfl];unfold HK;have hne:((a.length:Int) != (b.length:Int)) = !(a.length==b.length):=by
  cases h:a.length==b.length with
  |true=>have:a.length=b.length:=by simpa using h
         rw[this];simp
  |false=>have:a.length≠b.length:=by simpa using h
          simp;omega
 cases c:a.length==b.length with
 |false=>
  rw[c]at hne;simp only[go_sem,c91,hne]
 |true=>
 rw[c]at hne;have hlen:a.length=b.length:=by simpa using c
 have L:=QT (E:=rE) (live:=[0,1,5]) (b:=c91L0b) (h:=[]) a (λi x=>match b[i]? with|some y=>Z3 x y|none=>false) (λi=>[(0,.isl false ea 1<|a.map encS),(1,.isl false eb 1<|b.map encS),(5,I i)]) 0 (λfr=>get fr 4=.bot) (λfr=>get fr 4=.bool false) (λi=>rfl)
  (λi x hx hP=>by
   have hg:=Z6 (f:=encS) hx;have hi:=Zh<|Z7 hx;have hw:=Zx (n:=i) (by have:=Z7 hx;omega)
   obtain⟨y,hy⟩:∃y,b[i]?=some y:=⟨_,ZX5<|by rw[<-hlen];exact Z7 hx⟩
   have hgy:=Z6 (f:=encS) hy;rw[hy]at hP;dsimp only at hP;refine⟨_,by simp only[go_sem,c91L0b,hg,hgy,hi,hw,encS,hP];rfl,?_⟩
   simp only[go_sem])
  (λi x hx hP=>by
   have hg:=Z6 (f:=encS) hx;have hi:=Zh<|Z7 hx;obtain⟨y,hy⟩:∃y,b[i]?=some y:=⟨_,ZX5<|by rw[<-hlen];exact Z7 hx⟩
   have hgy:=Z6 (f:=encS) hy;rw[hy]at hP;dsimp only at hP;refine⟨_,by simp only[go_sem,c91L0b,hg,hgy,hi,encS,hP];rfl,?_⟩
   simp only[go_sem])
  (⟨_,by simp only[go_sem,c91L0b,ZG];rfl,by simp only[go_sem]⟩)
 obtain⟨fr',h1,h2,h3⟩:=L;have h1':Zg rE [0,1,5] c91L0b [(0,.isl false ea 1<|a.map encS),(1,.isl false eb 1<|b.map encS),(5,.int .i64 0)] []=_:=h1;cases e:Zu (λi x=>match b[i]? with|some y=>Z3 x y|none=>false) 0 a with
 |true=>
  rw[e]at h1';simp only[go_sem,c91,c91L0,hne,h1',h2 e,if_true]
 |false=>
  rw[e]at h1';simp only[go_sem,c91,c91L0,hne,h1',h3 e,ZX2]
end Go.AM
