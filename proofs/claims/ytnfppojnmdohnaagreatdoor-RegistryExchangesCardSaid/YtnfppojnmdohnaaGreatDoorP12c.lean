/- What the functions of the program compute, part 3, for RegistryExchanges. No condition. -/
import Derived.Test.YtnfppojnmdohnaaGreatDoorP12b
set_option linter.unusedVariables false
set_option linter.unusedSimpArgs false
open Nat (reduceAdd reduceSub reduceMul reduceLT reduceLeDiff)
namespace Go.AM
open Go
def FU (a b:Door):Bool:=((((!Z3 a.Id b.Id||!Z3 a.Building b.Building)||!Z3 a.Street b.Street)||a.Owner != b.Owner)||!QL a.Number b.Number)||!QK a.Point b.Point
def HL (a b:Door):Bool:=!FU a b&&(((((a.From==b.From&&a.Ended==b.Ended)&&HK a.After.l b.After.l)&&a.Why==b.Why)&&a.Office==b.Office)&&Z3 a.Veil b.Veil)
theorem Z4M (a b:Door) (ha:a.After.l.length≤1000):pfn rE 39 [a.enc,b.enc]=some (.bool (HL a b)):=by
 have hT:=Z4L a.After.ex b.After.ex a.After.l b.After.l ha;have hn:(a.Number.N==b.Number.N&&(Z3 a.Number.Letter b.Number.Letter&&(a.Number.Num==b.Number.Num&&a.Number.Den==b.Number.Den)))=QL a.Number b.Number:=rfl;have hp:(a.Point.X==b.Point.X&&a.Point.Y==b.Point.Y)=QK a.Point b.Point:=rfl;rw [Z5 (f:=39) rfl rfl];unfold HL FU;cases c0:Z3 a.Id b.Id with
 | false=>simp only [go_sem,Nat.reduceBEq,reduceAdd,reduceIte,c39,Door.enc,NL.enc,c0,Bool.true_or]
 | true=>
 cases c1:Z3 a.Building b.Building with
 | false=>simp only [go_sem,Nat.reduceBEq,reduceAdd,reduceIte,c39,Door.enc,NL.enc,c0,c1,Bool.true_or,Bool.false_or]
 | true=>
 cases c2:Z3 a.Street b.Street with
 | false=>simp only [go_sem,Nat.reduceBEq,reduceAdd,reduceIte,c39,Door.enc,NL.enc,c0,c1,c2,Bool.true_or,Bool.false_or]
 | true=>
 cases c3:a.Owner != b.Owner with
 | true=>simp only [go_sem,Nat.reduceBEq,reduceAdd,reduceIte,c39,Door.enc,NL.enc,c0,c1,c2,c3,Bool.true_or,Bool.false_or]
 | false=>
 cases c4:QL a.Number b.Number with
 | false=>simp only [go_sem,Nat.reduceBEq,reduceAdd,reduceSub,reduceMul,reduceLT,reduceLeDiff,reduceIte,c39,Door.enc,NL.enc,c0,c1,c2,c3,hn,c4,Bool.true_or,Bool.false_or]
 | true=>
 cases c5:QK a.Point b.Point with
 | false=>simp only [go_sem,Nat.reduceBEq,reduceAdd,reduceSub,reduceMul,reduceLT,reduceLeDiff,reduceIte,c39,Door.enc,NL.enc,c0,c1,c2,c3,hn,c4,hp,c5,Bool.true_or,Bool.false_or]
 | true=>
 cases c6:a.From==b.From with
 | false=>simp only [go_sem,Nat.reduceBEq,reduceAdd,reduceSub,reduceMul,reduceLT,reduceLeDiff,reduceIte,c39,Door.enc,NL.enc,c0,c1,c2,c3,hn,c4,hp,c5,c6,Bool.true_or,Bool.false_or]
 | true=>
 cases c7:a.Ended==b.Ended with
 | false=>simp only [go_sem,Nat.reduceBEq,reduceAdd,reduceSub,reduceMul,reduceLT,reduceLeDiff,reduceIte,c39,Door.enc,NL.enc,c0,c1,c2,c3,hn,c4,hp,c5,c6,c7,Bool.true_or,Bool.false_or]
 | true=>
 cases c8:HK a.After.l b.After.l with
 | false=>rw [c8] at hT;simp only [go_sem,Nat.reduceBEq,reduceAdd,reduceSub,reduceMul,reduceLT,reduceLeDiff,reduceIte,c39,Door.enc,NL.enc,c0,c1,c2,c3,hn,c4,hp,c5,c6,c7,hT,Bool.true_or,Bool.false_or]
 | true=>
 rw [c8] at hT;cases c9:a.Why==b.Why with
 | false=>simp only [go_sem,Nat.reduceBEq,reduceAdd,reduceSub,reduceMul,reduceLT,reduceLeDiff,reduceIte,c39,Door.enc,NL.enc,c0,c1,c2,c3,hn,c4,hp,c5,c6,c7,hT,c9,Bool.true_or,Bool.false_or]
 | true=>
 cases c10:a.Office==b.Office with
 | false=>simp only [go_sem,Nat.reduceBEq,reduceAdd,reduceSub,reduceMul,reduceLT,reduceLeDiff,reduceIte,c39,Door.enc,NL.enc,c0,c1,c2,c3,hn,c4,hp,c5,c6,c7,hT,c9,c10,Bool.true_or,Bool.false_or]
 | true=>simp only [go_sem,Nat.reduceBEq,reduceAdd,reduceSub,reduceMul,reduceLT,reduceLeDiff,reduceIte,c39,Door.enc,NL.enc,c0,c1,c2,c3,hn,c4,hp,c5,c6,c7,hT,c9,c10,Bool.true_or,Bool.false_or]
theorem HM (n:Int):pfn rE 93 [I n]=some (.agg [I n,.str emp,I 0,I 0]):=by
 rw [Z5 (f:=93) rfl rfl];simp only [go_sem,Nat.reduceBEq,reduceAdd,reduceSub,reduceMul,reduceLT,reduceLeDiff,reduceIte,c93]
def zEv:Event:=⟨0,0,0,0,0,emp,emp,emp,⟨false,[]⟩,⟨false,[]⟩,⟨0,emp,0,0⟩,⟨0,0⟩,⟨false,[]⟩,⟨false,[]⟩⟩
def nOf (n:Int):HN:=⟨n,emp,0,0⟩
def ev1:Event:={ zEv with Kind:=2,Id:=B [115,49],Path:=⟨false,[⟨0,0⟩,⟨9,0⟩]⟩ }
def ev2:Event:={ zEv with Kind:=5,Id:=B [98,49],Path:=⟨false,[⟨1,1⟩,⟨4,1⟩,⟨1,4⟩]⟩ }
def ev3:Event:={ zEv with Kind:=6,Id:=B [101,49],Other:=B [98,49],Text:=B [115,49],Number:=nOf 1,Point:=⟨2,1⟩,Day:=3 }
def ev4:Event:={ zEv with Kind:=7,Id:=B [117,49],Other:=B [101,49],Text:=B [50,76] }
def smp:Nat→Sta
 | 0=>Yh
 | 1=>ZP Yh 1 ev1
 | 2=>ZP (ZP Yh 1 ev1) 1 ev2
 | 3=>ZP (ZP (ZP Yh 1 ev1) 1 ev2) 1 ev3
 | _=>ZP (ZP (ZP (ZP Yh 1 ev1) 1 ev2) 1 ev3) 1 ev4
def Vw:List Event:=[ev1,ev2,ev3,ev4]
theorem Z4N (i:Nat) (e:Event) (h:Vw[i]? = some e):pfn rE 34 [stA (smp i),I 1,evA e]=some (.tup [stA (smp (i+1)),I 0]):=by
 have f0:YQ (smp 0)=true:=by decide +kernel
 have f1:YQ (smp 1)=true:=by decide +kernel
 have f2:YQ (smp 2)=true:=by decide +kernel
 have f3:YQ (smp 3)=true:=by decide +kernel
 have g0:Xn ev1=true:=by decide +kernel
 have g1:Xn ev2=true:=by decide +kernel
 have g2:Xn ev3=true:=by decide +kernel
 have g3:Xn ev4=true:=by decide +kernel
 have e0:Qk (smp 0) 1 ev1=0:=by decide +kernel
 have e1:Qk (smp 1) 1 ev2=0:=by decide +kernel
 have e2:Qk (smp 2) 1 ev3=0:=by decide +kernel
 have e3:Qk (smp 3) 1 ev4=0:=by decide +kernel
 have hi:i < 4:=Z7 h;rcases (by omega:i=0∨i=1∨i=2∨i=3) with rfl | rfl | rfl | rfl
 ·cases h;rw [JJ _ (Kl _ f0) 1 _ (JL _ g0),e0];rfl
 ·cases h;rw [JJ _ (Kl _ f1) 1 _ (JL _ g1),e1];rfl
 ·cases h;rw [JJ _ (Kl _ f2) 1 _ (JL _ g2),e2];rfl
 ·cases h;rw [JJ _ (Kl _ f3) 1 _ (JL _ g3),e3];rfl
theorem Z4O:∃ fr',Zg rE [0,2,3,4] c92L0b [(0,.ptr 0 0 0 1),(2,.ptr 1 0 0 1),(3,.isl false false 18 (Vw.map evA)),(4,.int .i64 0)] [.row 7 [stA Yh],.row 7 [stA Yh]] =
 some (.exit 0,fr',[.row 7 [stA Yh],.row 7 [stA (smp 4)]])∧get fr' 0=.ptr 0 0 0 1∧get fr' 1=.bot∧get fr' 2=.ptr 1 0 0 1:=by
 have L:=Y8 (E:=rE) (live:=[0,2,3,4]) (b:=c92L0b) 4 (fun i=>[(0,.ptr 0 0 0 1),(2,.ptr 1 0 0 1),(3,.isl false false 18 (Vw.map evA)),(4,I i)])
  (fun i=>[.row 7 [stA Yh],.row 7 [stA (smp i)]]) (fun i=>rfl)
  (fun i hi=>by
   obtain ⟨x,hx⟩:∃ x,Vw[i]? = some x:=⟨_,List.getElem?_eq_getElem hi⟩;have hg:=Z6 (f:=evA) hx;have hlen:Vw.length=4:=rfl;have hi':=Zh hi;have hwr:=Zx (n:=i) (by omega)
   have hA:=Z4N i x hx;have n0:((0:Int) != 0)=false:=rfl;generalize smp i=S at hA ⊢;generalize smp (i+1)=S' at hA ⊢;refine ⟨_,by simp only [go_sem,Nat.reduceBEq,reduceAdd,reduceSub,reduceMul,reduceLT,reduceLeDiff,reduceIte,c92L0b,hg,hlen,hi',hwr,hA,n0];rfl,?_⟩
   simp only [go_sem,Nat.reduceBEq,reduceAdd,reduceSub,reduceMul,reduceLT,reduceLeDiff,reduceIte])
  (e:=.exit 0) (fr:=[(0,.ptr 0 0 0 1),(1,.bot),(2,.ptr 1 0 0 1),(3,.isl false false 18 (Vw.map evA)),(4,I (4:Nat))]) (h:=[.row 7 [stA Yh],.row 7 [stA (smp 4)]])
  (by
   have hlen:Vw.length=4:=rfl;have hd:=ZG 4;simp only [go_sem,Nat.reduceBEq,reduceAdd,reduceSub,reduceMul,reduceLT,reduceLeDiff,reduceIte,c92L0b,hlen,hd]) (by simp)
 exact ⟨_,L,by simp only [go_sem,Nat.reduceBEq,reduceAdd,reduceSub,reduceMul,reduceLT,reduceLeDiff,reduceIte],by simp only [go_sem,Nat.reduceBEq,reduceAdd,reduceSub,reduceMul,reduceLT,reduceLeDiff,reduceIte],by simp only [go_sem,Nat.reduceBEq,reduceAdd,reduceSub,reduceMul,reduceLT,reduceLeDiff,reduceIte]⟩
theorem Z4P:pfn rE 92 []=some (.tup [stA (smp 4),.bool true]):=by
 obtain ⟨fr',hL,q0,q1,q2⟩:=Z4O;have h93:=HM 1;generalize smp 4=S at hL ⊢;have hz:stA Yh=.agg HE:=rfl;rw [hz] at hL;simp only [Vw,ev1,ev2,ev3,ev4,zEv,nOf,List.map_cons,List.map_nil,evA,Pt.enc] at hL;rw [Z5 (f:=92) rfl rfl];simp only [go_sem,Nat.reduceBEq,reduceAdd,reduceSub,reduceMul,reduceLT,reduceLeDiff,reduceIte,c92,c92L0,h93,hL,q0,q1,q2]
end Go.AM
namespace Go.AM
open Go
def hv1:Event:={ zEv with Kind:=9,Id:=B [101,49],Day:=7,Lst:=⟨false,[⟨B [101,50],nOf 1,⟨0,0⟩⟩,⟨B [101,51],nOf 3,⟨0,0⟩⟩]⟩ }
def hv2:Event:={ zEv with Kind:=6,Id:=B [101,49],Other:=B [98,49],Text:=B [115,49],Number:=nOf 9 }
def hv3:Event:={ zEv with Kind:=6,Id:=B [101,52],Other:=B [98,49],Text:=B [115,49],Number:=nOf 3 }
def hv4:Event:={ zEv with Kind:=8,Id:=B [115,49],Lst:=⟨false,[⟨B [101,50],nOf 3,⟨0,0⟩⟩,⟨B [101,51],nOf 1,⟨0,0⟩⟩]⟩ }
def hv5:Event:={ zEv with Kind:=12,Id:=B [115,49] }
def hv6:Event:={ zEv with Kind:=11,Id:=B [98,49],Day:=9 }
def hv7:Event:={ zEv with Kind:=13,A:=1,B:=2 }
def hv8:Event:={ zEv with Kind:=13,A:=2,B:=1 }
def hv9:Event:={ zEv with Kind:=13,A:=3,B:=2 }
def hS1:Sta:=ZP (smp 4) 1 hv1
def hS4:Sta:=ZP hS1 1 hv4
def hS6:Sta:=ZP hS4 1 hv6
def hS7:Sta:=ZP hS6 0 hv7
def tgt:Door:=⟨B [101,49],B [98,49],B [115,49],1,nOf 1,⟨2,1⟩,3,7,⟨false,[B [101,50],B [101,51]]⟩,9,0,emp⟩
theorem ap (s:Sta) (a:Int) (e:Event) (c:Int) (h:(YQ s&&(Xn e&&Qk s a e==c))=true):pfn rE 34 [stA s,I a,evA e]=some (.tup [stA (ZP s a e),I c]):=by
 simp only [Bool.and_eq_true] at h;obtain ⟨h1,h2,h3⟩:=h;rw [JJ s (Kl s h1) a e (JL e h2)];have:Qk s a e=c:=by simpa using h3
 rw [this]
theorem ha1:pfn rE 34 [stA (smp 4),I 1,evA hv1]=some (.tup [stA hS1,I 0]):=ap _ _ _ _ (by decide +kernel)
theorem ha2:pfn rE 34 [stA hS1,I 1,evA hv2]=some (.tup [stA (ZP hS1 1 hv2),I 8]):=ap _ _ _ _ (by decide +kernel)
theorem ha3:pfn rE 34 [stA hS1,I 1,evA hv3]=some (.tup [stA (ZP hS1 1 hv3),I 8]):=ap _ _ _ _ (by decide +kernel)
theorem ha4:pfn rE 34 [stA hS1,I 1,evA hv4]=some (.tup [stA hS4,I 0]):=ap _ _ _ _ (by decide +kernel)
theorem ha5:pfn rE 34 [stA hS4,I 1,evA hv5]=some (.tup [stA (ZP hS4 1 hv5),I 11]):=ap _ _ _ _ (by decide +kernel)
theorem ha6:pfn rE 34 [stA hS4,I 1,evA hv6]=some (.tup [stA hS6,I 0]):=ap _ _ _ _ (by decide +kernel)
theorem ha7:pfn rE 34 [stA hS6,I 0,evA hv7]=some (.tup [stA hS7,I 0]):=ap _ _ _ _ (by decide +kernel)
theorem ha8:pfn rE 34 [stA hS7,I 0,evA hv8]=some (.tup [stA (ZP hS7 0 hv8),I 12]):=ap _ _ _ _ (by decide +kernel)
theorem ha9:pfn rE 34 [stA hS7,I 0,evA hv9]=some (.tup [stA (ZP hS7 0 hv9),I 11]):=ap _ _ _ _ (by decide +kernel)
def M4 (A C:Sta):Bool:=YQ A&&(A.Doors.length==3&&(A.Units.length==1&&(C.Doors.length==3&&(C.Units.length==1&&(Zn A (B [101,51])==2&&Zn A (B [98,49])==-1)))))
def M5 (A C:Sta):Bool:=match A.Doors[0]?,A.Units[0]?,C.Doors[1]?,C.Doors[2]?,C.Units[0]? with
 | some d0,some u0,some d1,some d2,some u1=>d0.After.l.length==2&&(HL d0 tgt&&(Z3 u0.Door (B [101,50])&&(d1.Ended==9&&(d2.Ended==9&&(d1.Why==11&&u1.Ended==9)))))
 | _,_,_,_,_=>false
theorem Z4Q:M4 hS1 hS6=true:=by decide +kernel
theorem Z4R:M5 hS1 hS6=true:=by decide +kernel
theorem Z4S {A C:Sta} (h:M5 A C=true):∃ d0 u0 d1 d2 u1,A.Doors[0]? = some d0∧A.Units[0]? = some u0∧C.Doors[1]? = some d1∧C.Doors[2]? = some d2∧C.Units[0]? = some u1∧
 d0.After.l.length=2∧HL d0 tgt=true∧Z3 u0.Door (B [101,50])=true∧(d1.Ended==9)=true∧(d2.Ended==9)=true∧(d1.Why==11)=true∧(u1.Ended==9)=true:=by
 unfold M5 at h;split at h
 ·rename_i d0 u0 d1 d2 u1 e0 e1 e2 e3 e4;simp only [Bool.and_eq_true] at h;obtain ⟨m0,m1,m2,m3,m4,m5,m6⟩:=h;exact ⟨d0,u0,d1,d2,u1,e0,e1,e2,e3,e4,by simpa using m0,m1,m2,m3,m4,m5,m6⟩
 ·cases h
theorem Z4T {A C:Sta} (h:M4 A C=true):StS A∧A.Doors.length=3∧A.Units.length=1∧C.Doors.length=3∧C.Units.length=1∧Zn A (B [101,51])=2∧Zn A (B [98,49])=-1:=by
 simp only [M4,Bool.and_eq_true] at h;obtain ⟨k0,k1,k2,k3,k4,k5,k6⟩:=h;exact ⟨(Kl A k0).e.sizes,by simpa using k1,by simpa using k2,by simpa using k3,by simpa using k4,by simpa using k5,by simpa using k6⟩
end Go.AM
namespace Go.AM
open Go
theorem ixM {α:Type} {f:α→AV} {l:List α} {i:Nat} {x:α} (h:l[i]? = some x):ixG (l.map f) (i:Int)=some (f x):=by rw [LP];exact Z6 h
theorem Z4U:pfn rE 32 []=some (.bool true):=by
 have hc1:=Z4Q;have hc2:=Z4R;have hs:=Z4P;have o1:=HM 1;have o3:=HM 3;have o9:=HM 9;have a1:=ha1;have a2:=ha2;have a3:=ha3;have a4:=ha4;have a5:=ha5;have a6:=ha6;have a7:=ha7;have a8:=ha8;have a9:=ha9;generalize ZP hS1 1 hv2=T2 at a2;generalize ZP hS1 1 hv3=T3 at a3;generalize ZP hS4 1 hv5=T5 at a5;generalize ZP hS7 0 hv8=T8 at a8;generalize ZP hS7 0 hv9=T9 at a9;generalize smp 4=T0 at hs a1;generalize hS1=T1 at hc1 hc2 a1 a2 a3 a4;generalize hS4=T4 at a4 a5 a6;generalize hS6=T6 at hc1 hc2 a6 a7;generalize hS7=T7 at a7 a8 a9;obtain ⟨hst,j1,j2,j3,j4,j5,j6⟩:=Z4T hc1;obtain ⟨d0,u0,d1,d2,u1,g0,g1,g2,g3,g4,m0,m1,m2,m3,m4,m5,m6⟩:=Z4S hc2;have hf1:=find_ok T1 hst (B [101,51]);have hf2:=find_ok T1 hst (B [98,49]);rw [j5] at hf1;rw [j6] at hf2;have hd0:=Z4M d0 tgt (by omega)
 rw [m1] at hd0;have x0:ixG (T1.Doors.map Door.enc) 0=some d0.enc:=ixM (f:=Door.enc) g0;have x1:ixG (T1.Units.map Unit'.enc) 0=some u0.enc:=ixM (f:=Unit'.enc) g1;have x2:ixG (T6.Doors.map Door.enc) 1=some d1.enc:=ixM (f:=Door.enc) g2;have x3:ixG (T6.Doors.map Door.enc) 2=some d2.enc:=ixM (f:=Door.enc) g3;have x4:ixG (T6.Units.map Unit'.enc) 0=some u1.enc:=ixM (f:=Unit'.enc) g4;simp only [hv1,hv2,hv3,hv4,hv5,hv6,hv7,hv8,hv9,zEv,nOf,evA,stA,Ent.enc,List.map_cons,List.map_nil,tgt,Door.enc,NL.enc,encS] at a1 a2 a3 a4 a5 a6 a7 a8 a9 hs hf1 hf2 x0 x1 x2 x3 x4 hd0;have y0:((0:Int)==0)=true:=rfl;have y8:((8:Int)==8)=true:=rfl;have y11:((11:Int)==11)=true:=rfl;have y12:((12:Int)==12)=true:=rfl;have y2:((2:Int)==2)=true:=rfl;have ym:((-1:Int)==-1)=true:=rfl;have w3:(((3:Nat):Int) != 3)=false:=rfl;have w1:(((1:Nat):Int) != 1)=false:=rfl;rw [Z5 (f:=32) rfl rfl];simp only [go_sem,Nat.reduceBEq,reduceAdd,reduceSub,reduceMul,reduceLT,reduceLeDiff,reduceIte,c32,hs,o1,o3,o9,a1,a2,a3,a4,a5,a6,a7,a8,a9,hf1,hf2,j1,j2,j3,j4,x0,x1,x2,x3,x4,hd0,m2,m3,m4,m5,m6,y0,y8,y11,y12,y2,ym,w3,w1,Unit'.enc]
end Go.AM
namespace Go.AM
open Go
theorem Zad (x:Str):Z3 x x=true:=by unfold Z3;exact beq_self_eq_true _
theorem Zat (ex:Bool) (l:List Pt) (hl:l.length≤1000):pfn rE 51 [.isl false ex 2 (l.map Pt.enc),.isl false ex 2 (l.map Pt.enc)]=some (.bool true):=by
 rw [Z5 (f:=51) rfl rfl];have L:=Y8 (E:=rE) (live:=[0,1,5]) (b:=c51L0b) l.length (fun i=>[(0,.isl false ex 2 (l.map Pt.enc)),(1,.isl false ex 2 (l.map Pt.enc)),(5,I i)]) (fun i=>[]) (fun i=>rfl)
  (fun i hi=>by
   obtain ⟨x,hx⟩:∃ x,l[i]? = some x:=⟨_,List.getElem?_eq_getElem hi⟩;have hg:=Z6 (f:=Pt.enc) hx;have hi':=Zh hi;have hwr:=Zx (n:=i) (by omega)
   refine ⟨[(0,.isl false ex 2 (l.map Pt.enc)),(1,.isl false ex 2 (l.map Pt.enc)),(4,.bot),(5,I (i+1:Nat))],?_,rfl⟩;simp only [go_sem,Nat.reduceBEq,reduceAdd,reduceSub,reduceMul,reduceLT,reduceLeDiff,reduceIte,c51L0b,hg,hi',hwr,Pt.enc,beq_self_eq_true])
  (e:=.exit 0) (fr:=[(0,.isl false ex 2 (l.map Pt.enc)),(1,.isl false ex 2 (l.map Pt.enc)),(4,.bot),(5,I l.length)]) (h:=[]) (by simp only [go_sem,Nat.reduceBEq,reduceAdd,reduceSub,reduceMul,reduceLT,reduceLeDiff,reduceIte,c51L0b,ZG]) (by simp)
 have hne:((l.length:Int) != (l.length:Int))=false:=by simp
 have L':Zg rE [0,1,5] c51L0b [(0,.isl false ex 2 (l.map Pt.enc)),(1,.isl false ex 2 (l.map Pt.enc)),(5,.int .i64 0)] []=_:=L;simp only [go_sem,Nat.reduceBEq,reduceAdd,reduceSub,reduceMul,reduceLT,reduceLeDiff,reduceIte,c51,c51L0,L',hne]
theorem ZaD (ex:Bool) (l:List Nm) (hl:l.length≤1000):pfn rE 110 [.isl false ex 3 (l.map Nm.enc),.isl false ex 3 (l.map Nm.enc)]=some (.bool true):=by
 rw [Z5 (f:=110) rfl rfl];have L:=Y8 (E:=rE) (live:=[0,1,5]) (b:=c110L0b) l.length (fun i=>[(0,.isl false ex 3 (l.map Nm.enc)),(1,.isl false ex 3 (l.map Nm.enc)),(5,I i)]) (fun i=>[]) (fun i=>rfl)
  (fun i hi=>by
   obtain ⟨x,hx⟩:∃ x,l[i]? = some x:=⟨_,List.getElem?_eq_getElem hi⟩;have hg:=Z6 (f:=Nm.enc) hx;have hi':=Zh hi;have hwr:=Zx (n:=i) (by omega)
   refine ⟨[(0,.isl false ex 3 (l.map Nm.enc)),(1,.isl false ex 3 (l.map Nm.enc)),(4,.bot),(5,I (i+1:Nat))],?_,rfl⟩;simp only [go_sem,Nat.reduceBEq,reduceAdd,reduceSub,reduceMul,reduceLT,reduceLeDiff,reduceIte,c110L0b,hg,hi',hwr,Nm.enc,Zad,beq_self_eq_true])
  (e:=.exit 0) (fr:=[(0,.isl false ex 3 (l.map Nm.enc)),(1,.isl false ex 3 (l.map Nm.enc)),(4,.bot),(5,I l.length)]) (h:=[]) (by simp only [go_sem,Nat.reduceBEq,reduceAdd,reduceSub,reduceMul,reduceLT,reduceLeDiff,reduceIte,c110L0b,ZG]) (by simp)
 have hne:((l.length:Int) != (l.length:Int))=false:=by simp
 have L':Zg rE [0,1,5] c110L0b [(0,.isl false ex 3 (l.map Nm.enc)),(1,.isl false ex 3 (l.map Nm.enc)),(5,.int .i64 0)] []=_:=L;simp only [go_sem,Nat.reduceBEq,reduceAdd,reduceSub,reduceMul,reduceLT,reduceLeDiff,reduceIte,c110,c110L0,L',hne]
theorem ZaU (x:Region) (h1:x.Ring.l.length≤1000) (h2:x.Names.l.length≤1000):pfn rE 36 [x.enc,x.enc]=some (.bool true):=by
 have hp:=Zat x.Ring.ex x.Ring.l h1;have hn:=ZaD x.Names.ex x.Names.l h2;rw [Z5 (f:=36) rfl rfl];simp only [go_sem,Nat.reduceBEq,reduceAdd,reduceSub,reduceMul,reduceLT,reduceLeDiff,reduceIte,c36,Region.enc,NL.enc,Zad,beq_self_eq_true,hp,hn]
theorem ZaV (x:Street) (h1:x.Line.l.length≤1000) (h2:x.Names.l.length≤1000):pfn rE 37 [x.enc,x.enc]=some (.bool true):=by
 have hp:=Zat x.Line.ex x.Line.l h1;have hn:=ZaD x.Names.ex x.Names.l h2;rw [Z5 (f:=37) rfl rfl];simp only [go_sem,Nat.reduceBEq,reduceAdd,reduceSub,reduceMul,reduceLT,reduceLeDiff,reduceIte,c37,Street.enc,NL.enc,Zad,beq_self_eq_true,hp,hn]
theorem ZaW (x:Building) (h1:x.Ring.l.length≤1000):pfn rE 38 [x.enc,x.enc]=some (.bool true):=by
 have hp:=Zat x.Ring.ex x.Ring.l h1;rw [Z5 (f:=38) rfl rfl];simp only [go_sem,Nat.reduceBEq,reduceAdd,reduceSub,reduceMul,reduceLT,reduceLeDiff,reduceIte,c38,Building.enc,NL.enc,Zad,beq_self_eq_true,hp]
theorem ZaX (l:List Str):HK l l=true:=by
 unfold HK;rw [beq_self_eq_true,Bool.true_and];have:∀ (m:List Str) (i:Nat),(∀ j x,m[j]? = some x→l[i+j]? = some x)→Zu (fun i x=>match l[i]? with | some y=>Z3 x y | none=>false) i m=true:=by
  intro m;induction m with
  | nil=>intro i h;rfl
  | cons x r ih=>
   intro i h;have h0:=h 0 x rfl;rw [Nat.add_zero] at h0;unfold Zu;rw [h0];simp only [Zad,Bool.true_and];exact ih (i+1) (fun j y hy=>by rw [Nat.add_assoc,Nat.add_comm 1 j];exact h (j+1) y hy)
 exact this l 0 (fun j x h=>by rw [Nat.zero_add];exact h)
theorem ZaY (x:Door) (h:x.After.l.length≤1000):pfn rE 39 [x.enc,x.enc]=some (.bool true):=by
 rw [Z4M x x h];unfold HL FU QL QK;simp only [Zad,ZaX,beq_self_eq_true,bne_self_eq_false,Bool.not_true,Bool.or_false,Bool.not_false,Bool.and_true]
end Go.AM
namespace Go.AM
open Go
theorem ZbL (ex:Bool) (l:List Pair) (hl:l.length≤1000):pfn rE 109 [.isl false ex 2 (l.map Pair.enc),.isl false ex 2 (l.map Pair.enc)]=some (.bool true):=by
 rw [Z5 (f:=109) rfl rfl];have L:=Y8 (E:=rE) (live:=[0,1,5]) (b:=c109L0b) l.length (fun i=>[(0,.isl false ex 2 (l.map Pair.enc)),(1,.isl false ex 2 (l.map Pair.enc)),(5,I i)]) (fun i=>[]) (fun i=>rfl)
  (fun i hi=>by
   obtain ⟨x,hx⟩:∃ x,l[i]? = some x:=⟨_,List.getElem?_eq_getElem hi⟩;have hg:=Z6 (f:=Pair.enc) hx;have hi':=Zh hi;have hwr:=Zx (n:=i) (by omega)
   refine ⟨[(0,.isl false ex 2 (l.map Pair.enc)),(1,.isl false ex 2 (l.map Pair.enc)),(4,.bot),(5,I (i+1:Nat))],?_,rfl⟩;simp only [go_sem,Nat.reduceBEq,reduceAdd,reduceSub,reduceMul,reduceLT,reduceLeDiff,reduceIte,c109L0b,hg,hi',hwr,Pair.enc,beq_self_eq_true])
  (e:=.exit 0) (fr:=[(0,.isl false ex 2 (l.map Pair.enc)),(1,.isl false ex 2 (l.map Pair.enc)),(4,.bot),(5,I l.length)]) (h:=[]) (by simp only [go_sem,Nat.reduceBEq,reduceAdd,reduceSub,reduceMul,reduceLT,reduceLeDiff,reduceIte,c109L0b,ZG]) (by simp)
 have hne:((l.length:Int) != (l.length:Int))=false:=by simp
 have L':Zg rE [0,1,5] c109L0b [(0,.isl false ex 2 (l.map Pair.enc)),(1,.isl false ex 2 (l.map Pair.enc)),(5,.int .i64 0)] []=_:=L;simp only [go_sem,Nat.reduceBEq,reduceAdd,reduceSub,reduceMul,reduceLT,reduceLeDiff,reduceIte,c109,c109L0,L',hne]
theorem Zc3 (s:Sta) (hE:StE s):Zg rE [2,3,5] c35L0b [(2,stI s),(3,stI s),(5,.int .i64 0)] []=some (.exit 0,[(2,stI s),(3,stI s),(4,.bot),(5,I s.Regions.length)],[]):=by
 have hn:=hE.sizes.regions;have L:=Y8 (E:=rE) (live:=[2,3,5]) (b:=c35L0b) s.Regions.length (fun i=>[(2,stI s),(3,stI s),(5,I i)]) (fun i=>[]) (fun i=>rfl)
  (fun i hi=>by
   obtain ⟨x,hx⟩:∃ x,s.Regions[i]? = some x:=⟨_,List.getElem?_eq_getElem hi⟩;have hg:=Z6 (f:=Region.enc) hx;have hi':=Zh hi;have hwr:=Zx (n:=i) (by omega)
   have hlt:((i:Int) < (s.Regions.length:Int)):=by omega
   have hm:=List.mem_of_getElem? hx;refine ⟨[(2,stI s),(3,stI s),(4,.bot),(5,I (i+1:Nat))],?_,rfl⟩;have hS:=ZaU x (Nat.le_trans (hE.regions x hm).2.1 (by omega)) (Nat.le_trans (hE.regions x hm).1 (by omega))
   simp only [Region.enc,NL.enc] at hS;simp only [go_sem,Nat.reduceBEq,reduceAdd,reduceSub,reduceMul,reduceLT,reduceLeDiff,reduceIte,c35L0b,hg,hi',hwr,hlt,if_true,Region.enc,NL.enc,hS])
  (e:=.exit 0) (fr:=[(2,stI s),(3,stI s),(4,.bot),(5,I s.Regions.length)]) (h:=[]) (by simp only [go_sem,Nat.reduceBEq,reduceAdd,reduceSub,reduceMul,reduceLT,reduceLeDiff,reduceIte,c35L0b,ZG]) (by simp)
 exact L
theorem Zc4 (s:Sta) (hE:StE s):Zg rE [2,3,6] c35L1b [(2,stI s),(3,stI s),(6,.int .i64 0)] []=some (.exit 2,[(2,stI s),(3,stI s),(4,.bot),(6,I s.Streets.length)],[]):=by
 have hn:=hE.sizes.streets;have L:=Y8 (E:=rE) (live:=[2,3,6]) (b:=c35L1b) s.Streets.length (fun i=>[(2,stI s),(3,stI s),(6,I i)]) (fun i=>[]) (fun i=>rfl)
  (fun i hi=>by
   obtain ⟨x,hx⟩:∃ x,s.Streets[i]? = some x:=⟨_,List.getElem?_eq_getElem hi⟩;have hg:=Z6 (f:=Street.enc) hx;have hi':=Zh hi;have hwr:=Zx (n:=i) (by omega)
   have hlt:((i:Int) < (s.Streets.length:Int)):=by omega
   have hm:=List.mem_of_getElem? hx;refine ⟨[(2,stI s),(3,stI s),(4,.bot),(6,I (i+1:Nat))],?_,rfl⟩;have hS:=ZaV x (Nat.le_trans (hE.streets x hm).2.1 (by omega)) (Nat.le_trans (hE.streets x hm).1 (by omega))
   simp only [Street.enc,NL.enc] at hS;simp only [go_sem,Nat.reduceBEq,reduceAdd,reduceSub,reduceMul,reduceLT,reduceLeDiff,reduceIte,c35L1b,hg,hi',hwr,hlt,if_true,Street.enc,NL.enc,hS])
  (e:=.exit 2) (fr:=[(2,stI s),(3,stI s),(4,.bot),(6,I s.Streets.length)]) (h:=[]) (by simp only [go_sem,Nat.reduceBEq,reduceAdd,reduceSub,reduceMul,reduceLT,reduceLeDiff,reduceIte,c35L1b,ZG]) (by simp)
 exact L
theorem Zc5 (s:Sta) (hE:StE s):Zg rE [2,3,7] c35L2b [(2,stI s),(3,stI s),(7,.int .i64 0)] []=some (.exit 4,[(2,stI s),(3,stI s),(4,.bot),(7,I s.Buildings.length)],[]):=by
 have hn:=hE.sizes.buildings;have L:=Y8 (E:=rE) (live:=[2,3,7]) (b:=c35L2b) s.Buildings.length (fun i=>[(2,stI s),(3,stI s),(7,I i)]) (fun i=>[]) (fun i=>rfl)
  (fun i hi=>by
   obtain ⟨x,hx⟩:∃ x,s.Buildings[i]? = some x:=⟨_,List.getElem?_eq_getElem hi⟩;have hg:=Z6 (f:=Building.enc) hx;have hi':=Zh hi;have hwr:=Zx (n:=i) (by omega)
   have hlt:((i:Int) < (s.Buildings.length:Int)):=by omega
   have hm:=List.mem_of_getElem? hx;refine ⟨[(2,stI s),(3,stI s),(4,.bot),(7,I (i+1:Nat))],?_,rfl⟩;have hS:=ZaW x (Nat.le_trans (hE.buildings x hm).1 (by omega))
   simp only [Building.enc,NL.enc] at hS;simp only [go_sem,Nat.reduceBEq,reduceAdd,reduceSub,reduceMul,reduceLT,reduceLeDiff,reduceIte,c35L2b,hg,hi',hwr,hlt,if_true,Building.enc,NL.enc,hS])
  (e:=.exit 4) (fr:=[(2,stI s),(3,stI s),(4,.bot),(7,I s.Buildings.length)]) (h:=[]) (by simp only [go_sem,Nat.reduceBEq,reduceAdd,reduceSub,reduceMul,reduceLT,reduceLeDiff,reduceIte,c35L2b,ZG]) (by simp)
 exact L
theorem Zc6 (s:Sta) (hE:StE s):Zg rE [2,3,8] c35L3b [(2,stI s),(3,stI s),(8,.int .i64 0)] []=some (.exit 6,[(2,stI s),(3,stI s),(4,.bot),(8,I s.Doors.length)],[]):=by
 have hn:=hE.sizes.doors;have L:=Y8 (E:=rE) (live:=[2,3,8]) (b:=c35L3b) s.Doors.length (fun i=>[(2,stI s),(3,stI s),(8,I i)]) (fun i=>[]) (fun i=>rfl)
  (fun i hi=>by
   obtain ⟨x,hx⟩:∃ x,s.Doors[i]? = some x:=⟨_,List.getElem?_eq_getElem hi⟩;have hg:=Z6 (f:=Door.enc) hx;have hi':=Zh hi;have hwr:=Zx (n:=i) (by omega)
   have hlt:((i:Int) < (s.Doors.length:Int)):=by omega
   have hm:=List.mem_of_getElem? hx;refine ⟨[(2,stI s),(3,stI s),(4,.bot),(8,I (i+1:Nat))],?_,rfl⟩;have hS:=ZaY x (by have:=(hE.doors x hm).after;omega)
   simp only [Door.enc,NL.enc] at hS;simp only [go_sem,Nat.reduceBEq,reduceAdd,reduceSub,reduceMul,reduceLT,reduceLeDiff,reduceIte,c35L3b,hg,hi',hwr,hlt,if_true,Door.enc,NL.enc,hS])
  (e:=.exit 6) (fr:=[(2,stI s),(3,stI s),(4,.bot),(8,I s.Doors.length)]) (h:=[]) (by simp only [go_sem,Nat.reduceBEq,reduceAdd,reduceSub,reduceMul,reduceLT,reduceLeDiff,reduceIte,c35L3b,ZG]) (by simp)
 exact L
theorem Zc7 (s:Sta) (hE:StE s):Zg rE [2,3,9] c35L4b [(2,stI s),(3,stI s),(9,.int .i64 0)] []=some (.exit 8,[(2,stI s),(3,stI s),(4,.bot),(9,I s.Units.length)],[]):=by
 have hn:=hE.sizes.units;have L:=Y8 (E:=rE) (live:=[2,3,9]) (b:=c35L4b) s.Units.length (fun i=>[(2,stI s),(3,stI s),(9,I i)]) (fun i=>[]) (fun i=>rfl)
  (fun i hi=>by
   obtain ⟨x,hx⟩:∃ x,s.Units[i]? = some x:=⟨_,List.getElem?_eq_getElem hi⟩;have hg:=Z6 (f:=Unit'.enc) hx;have hi':=Zh hi;have hwr:=Zx (n:=i) (by omega)
   have hlt:((i:Int) < (s.Units.length:Int)):=by omega
   have hm:=List.mem_of_getElem? hx;refine ⟨[(2,stI s),(3,stI s),(4,.bot),(9,I (i+1:Nat))],?_,rfl⟩;simp only [go_sem,Nat.reduceBEq,reduceAdd,reduceSub,reduceMul,reduceLT,reduceLeDiff,reduceIte,c35L4b,hg,hi',hwr,hlt,if_true,Unit'.enc,NL.enc,Zad,beq_self_eq_true])
  (e:=.exit 8) (fr:=[(2,stI s),(3,stI s),(4,.bot),(9,I s.Units.length)]) (h:=[]) (by simp only [go_sem,Nat.reduceBEq,reduceAdd,reduceSub,reduceMul,reduceLT,reduceLeDiff,reduceIte,c35L4b,ZG]) (by simp)
 exact L
theorem ZbM (s:Sta) (hE:StE s):pfn rE 35 [stA s,stA s]=some (.bool true):=by
 have l0:=Zc3 s hE;have l1:=Zc4 s hE;have l2:=Zc5 s hE;have l3:=Zc6 s hE;have l4:=Zc7 s hE;have p1:=ZbL false s.Merged hE.sizes.merged;have p2:=ZbL false s.Rulings hE.sizes.rulings;have hne:∀ n:Nat,((n:Int) != (n:Int))=false:=fun n=>by simp
 simp only [stI] at l0 l1 l2 l3 l4;rw [Z5 (f:=35) rfl rfl];simp only [go_sem,Nat.reduceBEq,reduceAdd,reduceSub,reduceMul,reduceLT,reduceLeDiff,reduceIte,c35,c35L0,c35L1,c35L2,c35L3,c35L4,hne,l0,l1,l2,l3,l4,p1,p2]
end Go.AM
namespace Go.AM
open Go
theorem ZbF (e:Event) (d:Int) (hd:ZD d 0 100000=true) (h:Q9 e=true):Q9 { e with Day:=d }=true:=by
 have h2:Q9 { e with Day:=d }=(ZD e.Kind 1 15&&(ZD d 0 100000&&(!Fb (Zq e)&&(NG (Zq e)&&Q8 e)))):=rfl
 rw [h2,hd];unfold Q9 at h;simp only [Bool.and_eq_true] at h ⊢;exact ⟨h.1,trivial,h.2.2⟩
theorem Zc8 {s t:Sta} (h:t.Merged=s.Merged):∀ n k,chN t n k=chN s n k:=by
 have hk:XJ t=XJ s:=by funext k;unfold XJ;rw [h]
 intro n;induction n with
 | zero=>intro k;rfl
 | succ n ih=>
  intro k;simp only [chN,hk,h,ih]
theorem ZbN {s t:Sta} (h:t.Merged=s.Merged) (h2:t.Rulings=s.Rulings):WK t=WK s:=by
 unfold WK;rw [h,h2];have e:(fun p:Pair=>chN t (s.Merged.length+1) p.b)=(fun p=>chN s (s.Merged.length+1) p.b):=funext fun p=>Zc8 h _ _
 rw [e]
theorem ZbO {s:Sta} {L:List Street} (hI:L.map (·.Id)=s.Streets.map (·.Id)) (hE:L.map (·.Ended)=s.Streets.map (·.Ended)) (hok:L.all Vp=true) (h:Jx s=true):Jx { s with Streets:=L }=true:=by
 have h1:∀ id,ZL { s with Streets:=L } id=ZL s id:=fun id=>by
  unfold ZL;rw [NX (fun x:Street=>x.Id) (fun y=>Z3 y id) L 0,NX (fun x:Street=>x.Id) (fun y=>Z3 y id) s.Streets 0]
  rw [hI]
 have h2:∀ k,QF { s with Streets:=L } k=QF s k:=fun k=>by
  have:(L.map (·.Ended))[k.toNat]? = (s.Streets.map (·.Ended))[k.toNat]?:=by rw [hE]
  rw [List.getElem?_map,List.getElem?_map] at this;unfold QF;show (match L[k.toNat]? with | some b=>b.Ended | none=>0)=_
  cases ha:L[k.toNat]? with
  | none=>
   rw [ha] at this;cases hb:s.Streets[k.toNat]? with
   | none=>rfl
   | some y=>rw [hb] at this;cases this
  | some x=>
   rw [ha] at this;cases hb:s.Streets[k.toNat]? with
   | none=>rw [hb] at this;cases this
   | some y=>rw [hb] at this;exact Option.some.inj this
 have h3:Vr { s with Streets:=L }=Vr s:=by
  funext i x
  unfold Vr Hg NO;rw [h1,h2];rfl
 have h4:Qp { s with Streets:=L }=Qp s:=by
  unfold Qp;rw [hI]
 have h5:WK { s with Streets:=L }=WK s:=ZbN rfl rfl
 have h6:Vs { s with Streets:=L }=Vs s:=rfl
 unfold Jx at h ⊢;rw [h3,h4,h5,h6];simp only [Bool.and_eq_true] at h ⊢;exact ⟨h.1,hok,h.2.2⟩
theorem Zc9 {s:Sta} {L:List Region} (hI:L.map (·.Id)=s.Regions.map (·.Id)) (hok:L.all Vo=true) (h:Jx s=true):Jx { s with Regions:=L }=true:=by
 have h4:Qp { s with Regions:=L }=Qp s:=by
  unfold Qp;rw [hI]
 have h5:WK { s with Regions:=L }=WK s:=ZbN rfl rfl
 have h6:Vs { s with Regions:=L }=Vs s:=rfl
 have h3:Vr { s with Regions:=L }=Vr s:=rfl
 unfold Jx at h ⊢;rw [h3,h4,h5,h6];simp only [Bool.and_eq_true] at h ⊢;exact ⟨hok,h.2⟩
theorem ZbB {α:Type} {P:α→Bool} {f:α→α} {l:List α} {k:Nat} (h:l.all P=true) (hf:∀ x,P x=true→P (f x)=true):(ZK l k f).all P=true:=by
 unfold ZK;split
 ·rename_i x hx;rw [List.all_eq_true] at h ⊢;intro y hy;rcases List.mem_or_eq_of_mem_set hy with h1 | rfl
  ·exact h y h1
  ·exact hf x (h x (List.mem_of_getElem? hx))
 ·exact h
theorem Zbz {α:Type} (l:List α) (k:Nat) (f:α→α) (i:Nat):(ZK l k f)[i]? = if i=k then (l[k]?).map f else l[i]?:=by
 unfold ZK;cases h:l[k]? with
 | none=>
  by_cases hi:i=k
  ·subst hi;rw [if_pos rfl,h];rfl
  ·rw [if_neg hi]
 | some x=>
  by_cases hi:i=k
  ·subst hi;rw [if_pos rfl,List.getElem?_set_self (List.getElem?_eq_some_iff.1 h).1];rfl
  ·rw [if_neg hi,List.getElem?_set_ne (Ne.symm hi)]
theorem ZbP {α:Type} (l:List α) (k:Nat) (f:α→α) (hf:∀ x,f (f x)=f x):ZK (ZK l k f) k f=ZK l k f:=by
 apply List.ext_getElem?;intro i;rw [Zbz,Zbz,Zbz];by_cases hi:i=k
 ·subst hi;rw [if_pos rfl,if_pos rfl];cases l[i]? with
  | none=>rfl
  | some x=>simp [hf]
 ·rw [if_neg hi,if_neg hi]
def Zbx (S:List Street) (k:Nat):NL Nm:=match S[k]? with | some x=>x.Names | none=>⟨false,[]⟩
def swN (S:List Street) (j k:Nat):List Street:=ZK (ZK S j (XN (Zbx S k))) k (XN (Zbx S j))
theorem ZbQ {S:List Street} {j k:Nat} {x y:Street} (hj:S[j]? = some x) (hk:S[k]? = some y) (i:Nat):(swN S j k)[i]? = if i=k then some (XN x.Names y) else if i=j then some (XN y.Names x) else S[i]?:=by
 have n1:Zbx S k=y.Names:=by simp [Zbx,hk]
 have n2:Zbx S j=x.Names:=by simp [Zbx,hj]
 unfold swN;rw [Zbz,Zbz,Zbz,n1,n2];by_cases hi:i=k
 ·subst hi;rw [if_pos rfl,if_pos rfl];by_cases hj':i=j
  ·subst hj';rw [if_pos rfl,hj];rw [hj] at hk;cases hk;rfl
  ·rw [if_neg hj',hk];rfl
 ·rw [if_neg hi,if_neg hi];by_cases hj':i=j
  ·subst hj';rw [if_pos rfl,if_pos rfl,hj];rfl
  ·rw [if_neg hj',if_neg hj']
theorem Zca {S:List Street} {j k:Nat} {x y:Street} (hj:S[j]? = some x) (hk:S[k]? = some y):swN (swN S j k) j k=S:=by
 have g:=ZbQ hj hk;have gk:(swN S j k)[k]? = some (XN x.Names y):=by rw [g,if_pos rfl]
 by_cases hjk:j=k
 ·subst hjk;rw [hj] at hk;cases hk;have:swN S j j=S:=by
   apply List.ext_getElem?;intro i;rw [g];by_cases hi:i=j
   ·subst hi;rw [if_pos rfl,hj];rfl
   ·rw [if_neg hi,if_neg hi]
  rw [this,this]
 ·have gj:(swN S j k)[j]? = some (XN y.Names x):=by rw [g,if_neg hjk,if_pos rfl]
  apply List.ext_getElem?;intro i;rw [ZbQ gj gk];by_cases hi:i=k
  ·subst hi;rw [if_pos rfl,hk];rfl
  ·rw [if_neg hi];by_cases hi2:i=j
   ·subst hi2;rw [if_pos rfl,hj];rfl
   ·rw [if_neg hi2,g,if_neg hi,if_neg hi2]
theorem ZbR {α:Type} {S:List Street} {j k:Nat} (g:Street→α) (hg:∀ n x,g (XN n x)=g x):(swN S j k).map g=S.map g:=by
 unfold swN;rw [FK g _ (fun x=>hg _ x),FK g _ (fun x=>hg _ x)]
theorem Zcb {x:Street} (h:Vp x=true):Jp x.Names.l x.Names.ex=true:=by
 unfold Vp at h;simp only [Bool.and_eq_true] at h;exact h.2.1
theorem ZbG {x:Street} {n:NL Nm} (h:Vp x=true) (hn:Jp n.l n.ex=true):Vp (XN n x)=true:=by
 have:Vp (XN n x)=(QM x.Owner x.Ended 0&&(Jp n.l n.ex&&Q9 { Ju x with Kind:=2 })):=rfl
 rw [this,hn];unfold Vp at h;simp only [Bool.and_eq_true] at h ⊢;exact ⟨h.1,trivial,h.2.2⟩
theorem Zcc {x:Region} {n:NL Nm} (h:Vo x=true) (hn:Jp n.l n.ex=true):Vo (NT n x)=true:=by
 have:Vo (NT n x)=(QM x.Owner x.Ended 0&&(Jp n.l n.ex&&Q9 { Jt x with Kind:=1 })):=rfl
 rw [this,hn];unfold Vo at h;simp only [Bool.and_eq_true] at h ⊢;exact ⟨h.1,trivial,h.2.2⟩
theorem ZbS {S:List Street} {k:Nat} {y:Street} (hk:S[k]? = some y) (h:S.all Vp=true):Jp (Zbx S k).l (Zbx S k).ex=true:=by
 have:Zbx S k=y.Names:=by simp [Zbx,hk]
 rw [this];exact Zcb (List.all_eq_true.1 h y (List.mem_of_getElem? hk))
end Go.AM
namespace Go.AM
open Go
theorem Zcd (e:Event) (he:Q9 e=true) (hk:e.Kind=3):Jp e.Names.l e.Names.ex=true:=by
 have hn:Uz e.Names.l=true:=by
  unfold Q9 Q8 at he;rw [hk] at he;simp only [Bool.and_eq_true] at he;have:=he.2.2.2.2;have h2:(ZZ e.Id&&Uz e.Names.l)=true:=this;rw [Bool.and_eq_true] at h2;exact h2.2
 have h1:Q9 (Jo e.Names.l e.Names.ex)=Uz e.Names.l:=by
  have e1:(ZD (Jo e.Names.l e.Names.ex).Kind 1 15&&(ZD (Jo e.Names.l e.Names.ex).Day 0 100000&&(!Fb (Zq (Jo e.Names.l e.Names.ex))&&NG (Zq (Jo e.Names.l e.Names.ex)))))=true:=by rfl
  have e2:Q8 (Jo e.Names.l e.Names.ex)=(ZZ (B [120])&&Uz e.Names.l):=by kernel_rfl
  have e3:ZZ (B [120])=true:=by decide +kernel
  unfold Q9;simp only [Bool.and_eq_true] at e1;rw [e1.1,e1.2.1,e1.2.2.1,e1.2.2.2,e2,e3];rfl
 unfold Jp;rw [h1,hn,Bool.or_true]
theorem ZbA {s:Sta} {L:List Street} (hI:L.map (·.Id)=s.Streets.map (·.Id)) (id:Str):ZL { s with Streets:=L } id=ZL s id:=by
 unfold ZL;rw [NX (fun x:Street=>x.Id) (fun y=>Z3 y id) L 0,NX (fun x:Street=>x.Id) (fun y=>Z3 y id) s.Streets 0]
 rw [hI]
theorem ZbT {s:Sta} {L:List Region} (hI:L.map (·.Id)=s.Regions.map (·.Id)) (id:Str):Qo { s with Regions:=L } id=Qo s id:=by
 unfold Qo;rw [NX (fun x:Region=>x.Id) (fun y=>Z3 y id) L 0,NX (fun x:Region=>x.Id) (fun y=>Z3 y id) s.Regions 0]
 rw [hI]
theorem ZbU {α β:Type} {f:α→β} {a b:Option α} (h:a.map f=b.map f):(∃ x y,a=some x∧b=some y∧f x=f y)∨(a=none∧b=none):=by
 cases a with
 | none=>cases b with
  | none=>exact Or.inr ⟨rfl,rfl⟩
  | some y=>cases h
 | some x=>cases b with
  | none=>cases h
  | some y=>exact Or.inl ⟨x,y,rfl,rfl,Option.some.inj h⟩
theorem ZbH {s:Sta} {L:List Street} (hE:L.map (·.Ended)=s.Streets.map (·.Ended)) (k:Int):QF { s with Streets:=L } k=QF s k:=by
 have h:(L.map (·.Ended))[k.toNat]? = (s.Streets.map (·.Ended))[k.toNat]?:=by rw [hE]
 rw [List.getElem?_map,List.getElem?_map] at h;unfold QF;rcases ZbU h with ⟨x,y,h1,h2,h3⟩ | ⟨h1,h2⟩
 ·simp only [h1,h2,h3]
 ·simp only [h1,h2]
theorem rend_eq {s:Sta} {L:List Region} (hE:L.map (·.Ended)=s.Regions.map (·.Ended)) (k:Int):WM { s with Regions:=L } k=WM s k:=by
 have h:(L.map (·.Ended))[k.toNat]? = (s.Regions.map (·.Ended))[k.toNat]?:=by rw [hE]
 rw [List.getElem?_map,List.getElem?_map] at h;unfold WM;rcases ZbU h with ⟨x,y,h1,h2,h3⟩ | ⟨h1,h2⟩
 ·simp only [h1,h2,h3]
 ·simp only [h1,h2]
theorem ZbV {s:Sta} {a:Int} {e:Event} (h:Qk s a e=0):okB s a e=true∧Q1 (wk0 s a e)=0∧Wh (stepW (wk0 s a e)).s.Doors=true∧ZP s a e=(stepW (wk0 s a e)).s:=by
 unfold Qk at h;unfold ZP;cases c1:okB s a e with
 | false=>rw [c1] at h;cases h
 | true=>
 cases c2:Q1 (wk0 s a e)==0 with
 | false=>
  rw [c1,c2,cond_true,cond_false] at h;rw [h] at c2;cases c2
 | true=>
 cases c3:Wh (stepW (wk0 s a e)).s.Doors with
 | false=>rw [c1,c2,c3] at h;cases h
 | true=>exact ⟨rfl,by simpa using c2,rfl,rfl⟩
theorem ZbI {s:Sta} {a:Int} {e:Event} (h1:okB s a e=true) (h2:Q1 (wk0 s a e)=0) (h3:Wh (stepW (wk0 s a e)).s.Doors=true):Qk s a e=0∧ZP s a e=(stepW (wk0 s a e)).s:=by
 unfold Qk ZP;rw [h1,h2,h3];exact ⟨rfl,rfl⟩
theorem ZbW {w:Wk} (h:w.e.Kind=4):Q1 w=Hm w:=by unfold Q1;rw [h];rfl
theorem ZbJ {w:Wk} (h:w.e.Kind=4):stepW w=exW w:=by unfold stepW;rw [h];rfl
theorem ZbK {w:Wk} (h:w.e.Kind=3):Q1 w=Hk w:=by unfold Q1;rw [h];rfl
theorem ZbC {w:Wk} (h:w.e.Kind=3):stepW w=Hl w:=by unfold stepW;rw [h];rfl
theorem ZbX {s:Sta} {a:Int} {e:Event} (h:okB s a e=true):Jx s=true∧QM a 0 0=true∧Q9 e=true:=by
 unfold okB at h;simp only [Bool.and_eq_true] at h;exact h
theorem ZbY {s:Sta} (h:Jx s=true):s.Streets.all Vp=true:=by
 unfold Jx at h;simp only [Bool.and_eq_true] at h;exact h.2.1
theorem Zce {s:Sta} (h:Jx s=true):s.Regions.all Vo=true:=by
 unfold Jx at h;simp only [Bool.and_eq_true] at h;exact h.1
theorem Zcf (s:Sta) (a:Int) (e:Event) (d:Int) (hd:ZD d 0 100000=true) (hk:e.Kind=4) (h:Qk s a e=0):
 Qk (ZP s a e) a { e with Day:=d }=0∧ZP (ZP s a e) a { e with Day:=d }=s:=by
 obtain ⟨h1,h2,h3,h4⟩:=ZbV h;obtain ⟨p1,p2,p3⟩:=ZbX h1;have hk0:(wk0 s a e).e.Kind=4:=hk;rw [ZbW hk0] at h2;rw [ZbJ hk0] at h3 h4;have e2:=h2;unfold Hm at h2;have ws:(wk0 s a e).s=s:=rfl;have we:(wk0 s a e).e=e:=rfl;rw [ws,we] at h2;cases c1:decide (ZL s e.Id < 0) with
 | true=>rw [c1] at h2;cases h2
 | false=>
 cases c2:decide (ZL s e.Other < 0) with
 | true=>rw [c1,c2] at h2;cases h2
 | false=>
 obtain ⟨j,x,hj,hx⟩:=QC c1;obtain ⟨k,y,hk',hy⟩:=QC c2;have hj':ZL s e.Id=(j:Int):=hj;have hk2:ZL s e.Other=(k:Int):=hk';have ht:(exW (wk0 s a e)).s={ s with Streets:=swN s.Streets j k }:=by
  unfold exW;rw [ws,we,hj',hk2];rfl
 rw [ht] at h4 h3;have hI:=ZbR (S:=s.Streets) (j:=j) (k:=k) (fun x=>x.Id) (fun _ _=>rfl)
 have hE:=ZbR (S:=s.Streets) (j:=j) (k:=k) (fun x=>x.Ended) (fun _ _=>rfl)
 have hall:=ZbY p1;have hall2:(swN s.Streets j k).all Vp=true:=by
  unfold swN;exact ZbB (ZbB hall (fun x hx=>ZbG hx (ZbS hy hall))) (fun x hx2=>ZbG hx2 (ZbS hx hall))
 have hp:=ZbO hI hE hall2 p1;rw [h4];have hk3:(wk0 { s with Streets:=swN s.Streets j k } a { e with Day:=d }).e.Kind=4:=hk
 have g1:okB { s with Streets:=swN s.Streets j k } a { e with Day:=d }=true:=by
  unfold okB;rw [hp,p2,ZbF e d hd p3];rfl
 have g2:Q1 (wk0 { s with Streets:=swN s.Streets j k } a { e with Day:=d })=0:=by
  rw [ZbW hk3,←e2];unfold Hm;show (bif decide (ZL { s with Streets:=swN s.Streets j k } e.Id < 0)||decide (ZL { s with Streets:=swN s.Streets j k } e.Other < 0) then 10 else bif QF { s with Streets:=swN s.Streets j k } (ZL { s with Streets:=swN s.Streets j k } e.Id) != -1||QF { s with Streets:=swN s.Streets j k } (ZL { s with Streets:=swN s.Streets j k } e.Other) != -1 then 11 else 0)=_
  rw [ZbA hI,ZbA hI,ZbH hE,ZbH hE];rfl
 have g3:(stepW (wk0 { s with Streets:=swN s.Streets j k } a { e with Day:=d })).s=s:=by
  rw [ZbJ hk3];unfold exW;show ({ s with Streets:=ZK (ZK (swN s.Streets j k) (ZL { s with Streets:=swN s.Streets j k } e.Id).toNat (XN (JF { s with Streets:=swN s.Streets j k } (ZL { s with Streets:=swN s.Streets j k } e.Other).toNat))) (ZL { s with Streets:=swN s.Streets j k } e.Other).toNat (XN (JF { s with Streets:=swN s.Streets j k } (ZL { s with Streets:=swN s.Streets j k } e.Id).toNat)) }:Sta)=s
  rw [ZbA hI,ZbA hI,hj',hk2];have:swN (swN s.Streets j k) j k=s.Streets:=Zca hx hy;show ({ s with Streets:=swN (swN s.Streets j k) j k }:Sta)=s
  rw [this]
 obtain ⟨f1,f2⟩:=ZbI g1 g2 (by rw [g3];exact h3)
 exact ⟨f1,f2.trans g3⟩
theorem Zcg (s:Sta) (a:Int) (e:Event) (d:Int) (hd:ZD d 0 100000=true) (hk:e.Kind=3) (h:Qk s a e=0):
 Qk (ZP s a e) a { e with Day:=d }=0∧ZP (ZP s a e) a { e with Day:=d }=ZP s a e:=by
 obtain ⟨h1,h2,h3,h4⟩:=ZbV h;obtain ⟨p1,p2,p3⟩:=ZbX h1;have hk0:(wk0 s a e).e.Kind=3:=hk;have hnm:=Zcd e p3 hk;rw [ZbK hk0] at h2;rw [ZbC hk0] at h3 h4;have e2:=h2;rw [h4];unfold Hl at h3 h4 ⊢;have ws:(wk0 s a e).s=s:=rfl;have we:(wk0 s a e).e=e:=rfl;rw [ws,we] at h3 h4 ⊢;cases c:decide (Qo s e.Id ≥ 0) with
 | true=>
  rw [c,cond_true] at h3 h4;rw [cond_true];have hI:(ZK s.Regions (Qo s e.Id).toNat (NT e.Names)).map (·.Id)=s.Regions.map (·.Id):=FK (fun x:Region=>x.Id) (NT e.Names) (fun _=>rfl) _ _
  have hE:(ZK s.Regions (Qo s e.Id).toNat (NT e.Names)).map (·.Ended)=s.Regions.map (·.Ended):=FK (fun x:Region=>x.Ended) (NT e.Names) (fun _=>rfl) _ _
  have hp:=Zc9 hI (ZbB (Zce p1) (fun x hx=>Zcc hx hnm)) p1
  generalize hL:ZK s.Regions (Qo s e.Id).toNat (NT e.Names)=L at *;have hk3:(wk0 { s with Regions:=L } a { e with Day:=d }).e.Kind=3:=hk
  show Qk { s with Regions:=L } a { e with Day:=d }=0∧ZP { s with Regions:=L } a { e with Day:=d }={ s with Regions:=L }
  have g1:okB { s with Regions:=L } a { e with Day:=d }=true:=by
   unfold okB;rw [hp,p2,ZbF e d hd p3];rfl
  have g2:Q1 (wk0 { s with Regions:=L } a { e with Day:=d })=0:=by
   rw [ZbK hk3,←e2];unfold Hk;show (bif decide (Qo { s with Regions:=L } e.Id < 0)&&decide (ZL s e.Id < 0) then 10 else bif (decide (Qo { s with Regions:=L } e.Id ≥ 0)&&WM { s with Regions:=L } (Qo { s with Regions:=L } e.Id) != -1)||(decide (ZL s e.Id ≥ 0)&&QF s (ZL s e.Id) != -1) then 11 else 0)=_
   rw [ZbT hI,rend_eq hE];rfl
  have g3:(stepW (wk0 { s with Regions:=L } a { e with Day:=d })).s={ s with Regions:=L }:=by
   rw [ZbC hk3];unfold Hl;show (bif decide (Qo { s with Regions:=L } e.Id ≥ 0) then ({ (wk0 { s with Regions:=L } a { e with Day:=d }) with s:={ s with Regions:=ZK L (Qo { s with Regions:=L } e.Id).toNat (NT e.Names) } }:Wk) else _).s=_
   rw [ZbT hI,c,cond_true];show ({ s with Regions:=ZK L (Qo s e.Id).toNat (NT e.Names) }:Sta)=_
   rw [←hL,ZbP _ _ (NT e.Names) (fun _=>rfl)]
  obtain ⟨f1,f2⟩:=ZbI g1 g2 (by rw [g3];exact h3)
  exact ⟨f1,f2.trans g3⟩
 | false=>
  rw [c,cond_false] at h3 h4;rw [cond_false];have hI:(ZK s.Streets (ZL s e.Id).toNat (XN e.Names)).map (·.Id)=s.Streets.map (·.Id):=FK (fun x:Street=>x.Id) (XN e.Names) (fun _=>rfl) _ _
  have hE:(ZK s.Streets (ZL s e.Id).toNat (XN e.Names)).map (·.Ended)=s.Streets.map (·.Ended):=FK (fun x:Street=>x.Ended) (XN e.Names) (fun _=>rfl) _ _
  have hp:=ZbO hI hE (ZbB (ZbY p1) (fun x hx=>ZbG hx hnm)) p1
  generalize hL:ZK s.Streets (ZL s e.Id).toNat (XN e.Names)=L at *;have hk3:(wk0 { s with Streets:=L } a { e with Day:=d }).e.Kind=3:=hk
  show Qk { s with Streets:=L } a { e with Day:=d }=0∧ZP { s with Streets:=L } a { e with Day:=d }={ s with Streets:=L }
  have g1:okB { s with Streets:=L } a { e with Day:=d }=true:=by
   unfold okB;rw [hp,p2,ZbF e d hd p3];rfl
  have g2:Q1 (wk0 { s with Streets:=L } a { e with Day:=d })=0:=by
   rw [ZbK hk3,←e2];unfold Hk;show (bif decide (Qo s e.Id < 0)&&decide (ZL { s with Streets:=L } e.Id < 0) then 10 else bif (decide (Qo s e.Id ≥ 0)&&WM s (Qo s e.Id) != -1)||(decide (ZL { s with Streets:=L } e.Id ≥ 0)&&QF { s with Streets:=L } (ZL { s with Streets:=L } e.Id) != -1) then 11 else 0)=_
   rw [ZbA hI,ZbH hE];rfl
  have g3:(stepW (wk0 { s with Streets:=L } a { e with Day:=d })).s={ s with Streets:=L }:=by
   rw [ZbC hk3];unfold Hl;show (bif decide (Qo s e.Id ≥ 0) then _ else ({ (wk0 { s with Streets:=L } a { e with Day:=d }) with s:={ s with Streets:=ZK L (ZL { s with Streets:=L } e.Id).toNat (XN e.Names) } }:Wk)).s=_
   rw [c,cond_false];show ({ s with Streets:=ZK L (ZL { s with Streets:=L } e.Id).toNat (XN e.Names) }:Sta)=_
   rw [ZbA hI,←hL,ZbP _ _ (XN e.Names) (fun _=>rfl)]
  obtain ⟨f1,f2⟩:=ZbI g1 g2 (by rw [g3];exact h3)
  exact ⟨f1,f2.trans g3⟩
end Go.AM
namespace Go.AM
open Go
theorem c12_eq:c12=.seq s12p0 (.seq s12p1 (.seq s12p2 (.seq s12p3 (.seq s12p4 (.seq s12p5 (.seq s12p6 (.seq s12p7 (.seq s12p8 (.seq s12p9 (.seq s12p10 .ret)))))))))):=rfl
theorem ZbD {α:Type} {Q:α→Prop} {f:α→α} {l:List α} {k:Nat} (h:∀ x∈l,Q x) (hf:∀ x,Q x→Q (f x)):∀ x∈ZK l k f,Q x:=by
 unfold ZK;split
 ·rename_i x hx;intro y hy;rcases List.mem_or_eq_of_mem_set hy with h1 | rfl
  ·exact h y h1
  ·exact hf x (h x (List.mem_of_getElem? hx))
 ·exact h
theorem ZbZ {s:Sta} (hE:StE s) (k:Nat):(JF s k).l.length≤100:=by
 unfold JF;split
 ·rename_i x hx;exact (hE.streets x (List.mem_of_getElem? hx)).1
 ·exact Nat.zero_le _
theorem Zch:StF Yh:=by
 have hz:StS Yh:=⟨Nat.zero_le _,Nat.zero_le _,Nat.zero_le _,Nat.zero_le _,Nat.zero_le _,Nat.zero_le _,Nat.zero_le _⟩;refine ⟨⟨hz,?_,?_,?_,?_,?_⟩,Nat.zero_le _,Nat.zero_le _,Nat.zero_le _,Nat.zero_le _,Nat.zero_le _,Nat.zero_le _,Nat.zero_le _⟩
 all_goals (intro x hx;cases hx)
theorem Zc0 {s:Sta} (hs:StF s) {L:List Street} (hl:L.length=s.Streets.length) (h:∀ x∈L,x.Names.l.length≤100∧x.Line.l.length≤100∧x.Id.size≤1000):StF { s with Streets:=L }:=
 ⟨⟨⟨hs.e.sizes.regions,by have:=hs.e.sizes.streets;show L.length≤1000;omega,hs.e.sizes.buildings,hs.e.sizes.doors,hs.e.sizes.units,hs.e.sizes.merged,hs.e.sizes.rulings⟩,hs.e.regions,h,hs.e.buildings,hs.e.doors,hs.e.units⟩,
   hs.regions,by have:=hs.streets;show L.length≤500;omega,hs.buildings,hs.doors,hs.units,hs.merged,hs.rulings⟩
theorem Zci {s:Sta} (hs:StF s) {L:List Region} (hl:L.length=s.Regions.length) (h:∀ x∈L,x.Names.l.length≤100∧x.Ring.l.length≤100∧x.Id.size≤1000):StF { s with Regions:=L }:=
 ⟨⟨⟨by have:=hs.e.sizes.regions;show L.length≤1000;omega,hs.e.sizes.streets,hs.e.sizes.buildings,hs.e.sizes.doors,hs.e.sizes.units,hs.e.sizes.merged,hs.e.sizes.rulings⟩,h,hs.e.streets,hs.e.buildings,hs.e.doors,hs.e.units⟩,
   by have:=hs.regions;show L.length≤500;omega,hs.streets,hs.buildings,hs.doors,hs.units,hs.merged,hs.rulings⟩
theorem Zc1 (s:Sta) (hs:StF s) (a:Int) (e:Event) (he:EvS e) (hk:e.Kind=3∨e.Kind=4):StF (ZP s a e):=by
 unfold ZP;cases okB s a e&&(Q1 (wk0 s a e)==0&&Wh (stepW (wk0 s a e)).s.Doors) with
 | false=>exact Zch
 | true=>
  rcases hk with hk | hk
  ·rw [ZbC (w:=wk0 s a e) hk];unfold Hl;cases decide (Qo (wk0 s a e).s (wk0 s a e).e.Id ≥ 0) with
   | true=>exact Zci hs (Xm _ _ _) (ZbD hs.e.regions (fun x hx=>⟨he.names,hx.2⟩))
   | false=>exact Zc0 hs (Xm _ _ _) (ZbD hs.e.streets (fun x hx=>⟨he.names,hx.2⟩))
  ·rw [ZbJ (w:=wk0 s a e) hk];unfold exW;exact Zc0 hs ((Xm _ _ _).trans (Xm _ _ _)) (ZbD (ZbD hs.e.streets (fun x hx=>⟨ZbZ hs.e _,hx.2⟩)) (fun x hx=>⟨ZbZ hs.e _,hx.2⟩))
theorem Zc2 {e:Event} (he:EvS e) (d:Int):EvS { e with Day:=d }:=⟨he.ids,he.names,he.path,he.lst,he.id,he.other,he.text⟩
theorem Zcj (s:Sta) (a:Int) (e:Event) (d:Int) (h0:0≤d) (h1:d≤65535):pfn rE 12 [stA s,I a,evA e,.int .u16 d]=some (.bool true):=by
 have hH:=Z4U;have hF:=Z4G s e;rw [Z5 (f:=12) (c:=c12) rfl rfl,c12_eq];cases c:YQ s&&Xn e with
 | false=>
  rw [c] at hF;simp only [go_sem,Nat.reduceBEq,reduceAdd,reduceSub,reduceMul,reduceLT,reduceLeDiff,reduceIte,s12p0,s12p1,s12p2,hH,hF]
 | true=>
 rw [c] at hF;rw [Bool.and_eq_true] at c;have hs:=Kl s c.1;have he:=JL e c.2;have hA:=JJ s hs a e he;have hw:IntKind.i64.wrap d=d:=wrap_small d h0 (by omega)
 have hdW:ZD d 0 100000=true:=by
  unfold ZD;rw [Bool.and_eq_true];exact ⟨decide_eq_true h0,decide_eq_true (by omega)⟩
 have key:(e.Kind=3∨e.Kind=4)→(Qk s a e=0→Qk (ZP s a e) a { e with Day:=d }=0∧ZP (ZP s a e) a { e with Day:=d }=(bif e.Kind==4 then s else ZP s a e)):=by
  intro hk h;rcases hk with hk | hk
  ·have:=Zcg s a e d hdW hk h;have hb:(e.Kind==4)=false:=by rw [hk];rfl
   rw [hb];exact this
  ·have:=Zcf s a e d hdW hk h;have hb:(e.Kind==4)=true:=by rw [hk];rfl
   rw [hb];exact this
 cases k4:e.Kind==4 with
 | true=>
  have hk:e.Kind=4:=by simpa using k4
  have n4:(e.Kind != 4)=false:=by simpa using k4
  have hT:=Zc1 s hs a e he (Or.inr hk);have hA2:=JJ (ZP s a e) hT a { e with Day:=d } (Zc2 he d)
  have hK:=key (Or.inr hk);rw [k4,cond_true] at hK;cases c1:Qk s a e==0 with
  | false=>
   have n1:(Qk s a e != 0)=true:=by simpa using c1
   simp only [go_sem,Nat.reduceBEq,reduceAdd,reduceSub,reduceMul,reduceLT,reduceLeDiff,reduceIte,s12p0,s12p1,s12p2,s12p3,s12p4,hH,hF,hA,n1,n4]
  | true=>
   have e0:Qk s a e=0:=by simpa using c1
   obtain ⟨q1,q2⟩:=hK e0;rw [q1,q2] at hA2;rw [e0] at hA;have hSm:=ZbM s hs.e;have n1:((0:Int) != 0)=false:=rfl;have z1:((0:Int)==0)=true:=rfl;generalize ZP s a e=t at *;simp only [evA] at hA2;simp only [go_sem,Nat.reduceBEq,reduceAdd,reduceSub,reduceMul,reduceLT,reduceLeDiff,reduceIte,s12p0,s12p1,s12p2,s12p3,s12p4,s12p5,s12p6,s12p7,s12p8,s12p9,s12p10,hH,hF,hA,hA2,hw,n1,n4,k4,z1,hSm]
 | false=>
  have n4:(e.Kind != 4)=true:=by simpa using k4
  cases k3:e.Kind==3 with
  | false=>
   have n3:(e.Kind != 3)=true:=by simpa using k3
   simp only [go_sem,Nat.reduceBEq,reduceAdd,reduceSub,reduceMul,reduceLT,reduceLeDiff,reduceIte,s12p0,s12p1,s12p2,hH,hF,n4,n3]
  | true=>
   have hk:e.Kind=3:=by simpa using k3
   have n3:(e.Kind != 3)=false:=by simpa using k3
   have hT:=Zc1 s hs a e he (Or.inl hk);have hA2:=JJ (ZP s a e) hT a { e with Day:=d } (Zc2 he d)
   have hK:=key (Or.inl hk);rw [k4,cond_false] at hK;cases c1:Qk s a e==0 with
   | false=>
    have n1:(Qk s a e != 0)=true:=by simpa using c1
    simp only [go_sem,Nat.reduceBEq,reduceAdd,reduceSub,reduceMul,reduceLT,reduceLeDiff,reduceIte,s12p0,s12p1,s12p2,s12p3,s12p4,hH,hF,hA,n1,n4,n3]
   | true=>
    have e0:Qk s a e=0:=by simpa using c1
    obtain ⟨q1,q2⟩:=hK e0;rw [q1,q2] at hA2;rw [e0] at hA;have hSm:=ZbM (ZP s a e) hT.e;have n1:((0:Int) != 0)=false:=rfl;have z1:((0:Int)==0)=true:=rfl;generalize ZP s a e=t at *;simp only [evA] at hA2;simp only [go_sem,Nat.reduceBEq,reduceAdd,reduceSub,reduceMul,reduceLT,reduceLeDiff,reduceIte,s12p0,s12p1,s12p2,s12p3,s12p4,s12p5,s12p6,s12p7,s12p8,s12p9,s12p10,hH,hF,hA,hA2,hw,n1,n4,n3,k4,z1,hSm]
end Go.AM
