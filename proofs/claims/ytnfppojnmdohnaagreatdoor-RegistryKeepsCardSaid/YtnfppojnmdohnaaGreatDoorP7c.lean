/- What the functions of the program compute, part 3, for RegistryKeeps. No condition. -/
import Derived.Test.YtnfppojnmdohnaaGreatDoorP7b
set_option linter.unusedVariables false
set_option linter.unusedSimpArgs false
open Nat (reduceAdd reduceSub reduceMul reduceLT reduceLeDiff)
namespace Go.AM
open Go
def FU (a b:Door):Bool:=((((!Z3 a.Id b.Id||!Z3 a.Building b.Building)||!Z3 a.Street b.Street)||a.Owner != b.Owner)||!QL a.Number b.Number)||!QK a.Point b.Point
def HL (a b:Door):Bool:=!FU a b&&(((((a.From==b.From&&a.Ended==b.Ended)&&HK a.After.l b.After.l)&&a.Why==b.Why)&&a.Office==b.Office)&&Z3 a.Veil b.Veil)
theorem Z4M (a b:Door) (ha:a.After.l.length≤1000):pfn rE 39 [a.enc,b.enc]=some (.bool (HL a b)):=by
 have hT:=Z4L a.After.ex b.After.ex a.After.l b.After.l ha;have hn:(a.Number.N==b.Number.N&&(Z3 a.Number.Letter b.Number.Letter&&(a.Number.Num==b.Number.Num&&a.Number.Den==b.Number.Den)))=QL a.Number b.Number:=rfl;have hp:(a.Point.X==b.Point.X&&a.Point.Y==b.Point.Y)=QK a.Point b.Point:=rfl;rw [Z5 (f:=39) rfl rfl];unfold HL FU;cases c0:Z3 a.Id b.Id with
 | false=>simp only [go_sem,Nat.reduceBEq,reduceAdd,reduceIte,c39,Door.enc,NL.enc,c0,Bool.true_or]
 | true=>
 cases c1:Z3 a.Building b.Building with
 | false=>simp only [go_sem,Nat.reduceBEq,reduceAdd,reduceIte,c39,Door.enc,NL.enc,c0,c1,Bool.true_or,Bool.false_or]
 | true=>
 cases c2:Z3 a.Street b.Street with
 | false=>simp only [go_sem,Nat.reduceBEq,reduceAdd,reduceIte,c39,Door.enc,NL.enc,c0,c1,c2,Bool.true_or,Bool.false_or]
 | true=>
 cases c3:a.Owner != b.Owner with
 | true=>simp only [go_sem,Nat.reduceBEq,reduceAdd,reduceIte,c39,Door.enc,NL.enc,c0,c1,c2,c3,Bool.true_or,Bool.false_or]
 | false=>
 cases c4:QL a.Number b.Number with
 | false=>simp only [go_sem,Nat.reduceBEq,reduceAdd,reduceSub,reduceMul,reduceLT,reduceLeDiff,reduceIte,c39,Door.enc,NL.enc,c0,c1,c2,c3,hn,c4,Bool.true_or,Bool.false_or]
 | true=>
 cases c5:QK a.Point b.Point with
 | false=>simp only [go_sem,Nat.reduceBEq,reduceAdd,reduceSub,reduceMul,reduceLT,reduceLeDiff,reduceIte,c39,Door.enc,NL.enc,c0,c1,c2,c3,hn,c4,hp,c5,Bool.true_or,Bool.false_or]
 | true=>
 cases c6:a.From==b.From with
 | false=>simp only [go_sem,Nat.reduceBEq,reduceAdd,reduceSub,reduceMul,reduceLT,reduceLeDiff,reduceIte,c39,Door.enc,NL.enc,c0,c1,c2,c3,hn,c4,hp,c5,c6,Bool.true_or,Bool.false_or]
 | true=>
 cases c7:a.Ended==b.Ended with
 | false=>simp only [go_sem,Nat.reduceBEq,reduceAdd,reduceSub,reduceMul,reduceLT,reduceLeDiff,reduceIte,c39,Door.enc,NL.enc,c0,c1,c2,c3,hn,c4,hp,c5,c6,c7,Bool.true_or,Bool.false_or]
 | true=>
 cases c8:HK a.After.l b.After.l with
 | false=>rw [c8] at hT;simp only [go_sem,Nat.reduceBEq,reduceAdd,reduceSub,reduceMul,reduceLT,reduceLeDiff,reduceIte,c39,Door.enc,NL.enc,c0,c1,c2,c3,hn,c4,hp,c5,c6,c7,hT,Bool.true_or,Bool.false_or]
 | true=>
 rw [c8] at hT;cases c9:a.Why==b.Why with
 | false=>simp only [go_sem,Nat.reduceBEq,reduceAdd,reduceSub,reduceMul,reduceLT,reduceLeDiff,reduceIte,c39,Door.enc,NL.enc,c0,c1,c2,c3,hn,c4,hp,c5,c6,c7,hT,c9,Bool.true_or,Bool.false_or]
 | true=>
 cases c10:a.Office==b.Office with
 | false=>simp only [go_sem,Nat.reduceBEq,reduceAdd,reduceSub,reduceMul,reduceLT,reduceLeDiff,reduceIte,c39,Door.enc,NL.enc,c0,c1,c2,c3,hn,c4,hp,c5,c6,c7,hT,c9,c10,Bool.true_or,Bool.false_or]
 | true=>simp only [go_sem,Nat.reduceBEq,reduceAdd,reduceSub,reduceMul,reduceLT,reduceLeDiff,reduceIte,c39,Door.enc,NL.enc,c0,c1,c2,c3,hn,c4,hp,c5,c6,c7,hT,c9,c10,Bool.true_or,Bool.false_or]
theorem HM (n:Int):pfn rE 93 [I n]=some (.agg [I n,.str emp,I 0,I 0]):=by
 rw [Z5 (f:=93) rfl rfl];simp only [go_sem,Nat.reduceBEq,reduceAdd,reduceSub,reduceMul,reduceLT,reduceLeDiff,reduceIte,c93]
def zEv:Event:=⟨0,0,0,0,0,emp,emp,emp,⟨false,[]⟩,⟨false,[]⟩,⟨0,emp,0,0⟩,⟨0,0⟩,⟨false,[]⟩,⟨false,[]⟩⟩
def nOf (n:Int):HN:=⟨n,emp,0,0⟩
def ev1:Event:={ zEv with Kind:=2,Id:=B [115,49],Path:=⟨false,[⟨0,0⟩,⟨9,0⟩]⟩ }
def ev2:Event:={ zEv with Kind:=5,Id:=B [98,49],Path:=⟨false,[⟨1,1⟩,⟨4,1⟩,⟨1,4⟩]⟩ }
def ev3:Event:={ zEv with Kind:=6,Id:=B [101,49],Other:=B [98,49],Text:=B [115,49],Number:=nOf 1,Point:=⟨2,1⟩,Day:=3 }
def ev4:Event:={ zEv with Kind:=7,Id:=B [117,49],Other:=B [101,49],Text:=B [50,76] }
def smp:Nat→Sta
 | 0=>Yh
 | 1=>ZP Yh 1 ev1
 | 2=>ZP (ZP Yh 1 ev1) 1 ev2
 | 3=>ZP (ZP (ZP Yh 1 ev1) 1 ev2) 1 ev3
 | _=>ZP (ZP (ZP (ZP Yh 1 ev1) 1 ev2) 1 ev3) 1 ev4
def Vw:List Event:=[ev1,ev2,ev3,ev4]
theorem Z4N (i:Nat) (e:Event) (h:Vw[i]? = some e):pfn rE 34 [stA (smp i),I 1,evA e]=some (.tup [stA (smp (i+1)),I 0]):=by
 have f0:YQ (smp 0)=true:=by decide +kernel
 have f1:YQ (smp 1)=true:=by decide +kernel
 have f2:YQ (smp 2)=true:=by decide +kernel
 have f3:YQ (smp 3)=true:=by decide +kernel
 have g0:Xn ev1=true:=by decide +kernel
 have g1:Xn ev2=true:=by decide +kernel
 have g2:Xn ev3=true:=by decide +kernel
 have g3:Xn ev4=true:=by decide +kernel
 have e0:Qk (smp 0) 1 ev1=0:=by decide +kernel
 have e1:Qk (smp 1) 1 ev2=0:=by decide +kernel
 have e2:Qk (smp 2) 1 ev3=0:=by decide +kernel
 have e3:Qk (smp 3) 1 ev4=0:=by decide +kernel
 have hi:i < 4:=Z7 h;rcases (by omega:i=0∨i=1∨i=2∨i=3) with rfl | rfl | rfl | rfl
 ·cases h;rw [JJ _ (Kl _ f0) 1 _ (JL _ g0),e0];rfl
 ·cases h;rw [JJ _ (Kl _ f1) 1 _ (JL _ g1),e1];rfl
 ·cases h;rw [JJ _ (Kl _ f2) 1 _ (JL _ g2),e2];rfl
 ·cases h;rw [JJ _ (Kl _ f3) 1 _ (JL _ g3),e3];rfl
theorem Z4O:∃ fr',Zg rE [0,2,3,4] c92L0b [(0,.ptr 0 0 0 1),(2,.ptr 1 0 0 1),(3,.isl false false 18 (Vw.map evA)),(4,.int .i64 0)] [.row 7 [stA Yh],.row 7 [stA Yh]] =
 some (.exit 0,fr',[.row 7 [stA Yh],.row 7 [stA (smp 4)]])∧get fr' 0=.ptr 0 0 0 1∧get fr' 1=.bot∧get fr' 2=.ptr 1 0 0 1:=by
 have L:=Y8 (E:=rE) (live:=[0,2,3,4]) (b:=c92L0b) 4 (fun i=>[(0,.ptr 0 0 0 1),(2,.ptr 1 0 0 1),(3,.isl false false 18 (Vw.map evA)),(4,I i)])
  (fun i=>[.row 7 [stA Yh],.row 7 [stA (smp i)]]) (fun i=>rfl)
  (fun i hi=>by
   obtain ⟨x,hx⟩:∃ x,Vw[i]? = some x:=⟨_,List.getElem?_eq_getElem hi⟩;have hg:=Z6 (f:=evA) hx;have hlen:Vw.length=4:=rfl;have hi':=Zh hi;have hwr:=Zx (n:=i) (by omega)
   have hA:=Z4N i x hx;have n0:((0:Int) != 0)=false:=rfl;generalize smp i=S at hA ⊢;generalize smp (i+1)=S' at hA ⊢;refine ⟨_,by simp only [go_sem,Nat.reduceBEq,reduceAdd,reduceSub,reduceMul,reduceLT,reduceLeDiff,reduceIte,c92L0b,hg,hlen,hi',hwr,hA,n0];rfl,?_⟩
   simp only [go_sem,Nat.reduceBEq,reduceAdd,reduceSub,reduceMul,reduceLT,reduceLeDiff,reduceIte])
  (e:=.exit 0) (fr:=[(0,.ptr 0 0 0 1),(1,.bot),(2,.ptr 1 0 0 1),(3,.isl false false 18 (Vw.map evA)),(4,I (4:Nat))]) (h:=[.row 7 [stA Yh],.row 7 [stA (smp 4)]])
  (by
   have hlen:Vw.length=4:=rfl;have hd:=ZG 4;simp only [go_sem,Nat.reduceBEq,reduceAdd,reduceSub,reduceMul,reduceLT,reduceLeDiff,reduceIte,c92L0b,hlen,hd]) (by simp)
 exact ⟨_,L,by simp only [go_sem,Nat.reduceBEq,reduceAdd,reduceSub,reduceMul,reduceLT,reduceLeDiff,reduceIte],by simp only [go_sem,Nat.reduceBEq,reduceAdd,reduceSub,reduceMul,reduceLT,reduceLeDiff,reduceIte],by simp only [go_sem,Nat.reduceBEq,reduceAdd,reduceSub,reduceMul,reduceLT,reduceLeDiff,reduceIte]⟩
theorem Z4P:pfn rE 92 []=some (.tup [stA (smp 4),.bool true]):=by
 obtain ⟨fr',hL,q0,q1,q2⟩:=Z4O;have h93:=HM 1;generalize smp 4=S at hL ⊢;have hz:stA Yh=.agg HE:=rfl;rw [hz] at hL;simp only [Vw,ev1,ev2,ev3,ev4,zEv,nOf,List.map_cons,List.map_nil,evA,Pt.enc] at hL;rw [Z5 (f:=92) rfl rfl];simp only [go_sem,Nat.reduceBEq,reduceAdd,reduceSub,reduceMul,reduceLT,reduceLeDiff,reduceIte,c92,c92L0,h93,hL,q0,q1,q2]
end Go.AM
namespace Go.AM
open Go
def hv1:Event:={ zEv with Kind:=9,Id:=B [101,49],Day:=7,Lst:=⟨false,[⟨B [101,50],nOf 1,⟨0,0⟩⟩,⟨B [101,51],nOf 3,⟨0,0⟩⟩]⟩ }
def hv2:Event:={ zEv with Kind:=6,Id:=B [101,49],Other:=B [98,49],Text:=B [115,49],Number:=nOf 9 }
def hv3:Event:={ zEv with Kind:=6,Id:=B [101,52],Other:=B [98,49],Text:=B [115,49],Number:=nOf 3 }
def hv4:Event:={ zEv with Kind:=8,Id:=B [115,49],Lst:=⟨false,[⟨B [101,50],nOf 3,⟨0,0⟩⟩,⟨B [101,51],nOf 1,⟨0,0⟩⟩]⟩ }
def hv5:Event:={ zEv with Kind:=12,Id:=B [115,49] }
def hv6:Event:={ zEv with Kind:=11,Id:=B [98,49],Day:=9 }
def hv7:Event:={ zEv with Kind:=13,A:=1,B:=2 }
def hv8:Event:={ zEv with Kind:=13,A:=2,B:=1 }
def hv9:Event:={ zEv with Kind:=13,A:=3,B:=2 }
def hS1:Sta:=ZP (smp 4) 1 hv1
def hS4:Sta:=ZP hS1 1 hv4
def hS6:Sta:=ZP hS4 1 hv6
def hS7:Sta:=ZP hS6 0 hv7
def tgt:Door:=⟨B [101,49],B [98,49],B [115,49],1,nOf 1,⟨2,1⟩,3,7,⟨false,[B [101,50],B [101,51]]⟩,9,0,emp⟩
theorem ap (s:Sta) (a:Int) (e:Event) (c:Int) (h:(YQ s&&(Xn e&&Qk s a e==c))=true):pfn rE 34 [stA s,I a,evA e]=some (.tup [stA (ZP s a e),I c]):=by
 simp only [Bool.and_eq_true] at h;obtain ⟨h1,h2,h3⟩:=h;rw [JJ s (Kl s h1) a e (JL e h2)];have:Qk s a e=c:=by simpa using h3
 rw [this]
theorem ha1:pfn rE 34 [stA (smp 4),I 1,evA hv1]=some (.tup [stA hS1,I 0]):=ap _ _ _ _ (by decide +kernel)
theorem ha2:pfn rE 34 [stA hS1,I 1,evA hv2]=some (.tup [stA (ZP hS1 1 hv2),I 8]):=ap _ _ _ _ (by decide +kernel)
theorem ha3:pfn rE 34 [stA hS1,I 1,evA hv3]=some (.tup [stA (ZP hS1 1 hv3),I 8]):=ap _ _ _ _ (by decide +kernel)
theorem ha4:pfn rE 34 [stA hS1,I 1,evA hv4]=some (.tup [stA hS4,I 0]):=ap _ _ _ _ (by decide +kernel)
theorem ha5:pfn rE 34 [stA hS4,I 1,evA hv5]=some (.tup [stA (ZP hS4 1 hv5),I 11]):=ap _ _ _ _ (by decide +kernel)
theorem ha6:pfn rE 34 [stA hS4,I 1,evA hv6]=some (.tup [stA hS6,I 0]):=ap _ _ _ _ (by decide +kernel)
theorem ha7:pfn rE 34 [stA hS6,I 0,evA hv7]=some (.tup [stA hS7,I 0]):=ap _ _ _ _ (by decide +kernel)
theorem ha8:pfn rE 34 [stA hS7,I 0,evA hv8]=some (.tup [stA (ZP hS7 0 hv8),I 12]):=ap _ _ _ _ (by decide +kernel)
theorem ha9:pfn rE 34 [stA hS7,I 0,evA hv9]=some (.tup [stA (ZP hS7 0 hv9),I 11]):=ap _ _ _ _ (by decide +kernel)
def M4 (A C:Sta):Bool:=YQ A&&(A.Doors.length==3&&(A.Units.length==1&&(C.Doors.length==3&&(C.Units.length==1&&(Zn A (B [101,51])==2&&Zn A (B [98,49])==-1)))))
def M5 (A C:Sta):Bool:=match A.Doors[0]?,A.Units[0]?,C.Doors[1]?,C.Doors[2]?,C.Units[0]? with
 | some d0,some u0,some d1,some d2,some u1=>d0.After.l.length==2&&(HL d0 tgt&&(Z3 u0.Door (B [101,50])&&(d1.Ended==9&&(d2.Ended==9&&(d1.Why==11&&u1.Ended==9)))))
 | _,_,_,_,_=>false
theorem Z4Q:M4 hS1 hS6=true:=by decide +kernel
theorem Z4R:M5 hS1 hS6=true:=by decide +kernel
theorem Z4S {A C:Sta} (h:M5 A C=true):∃ d0 u0 d1 d2 u1,A.Doors[0]? = some d0∧A.Units[0]? = some u0∧C.Doors[1]? = some d1∧C.Doors[2]? = some d2∧C.Units[0]? = some u1∧
 d0.After.l.length=2∧HL d0 tgt=true∧Z3 u0.Door (B [101,50])=true∧(d1.Ended==9)=true∧(d2.Ended==9)=true∧(d1.Why==11)=true∧(u1.Ended==9)=true:=by
 unfold M5 at h;split at h
 ·rename_i d0 u0 d1 d2 u1 e0 e1 e2 e3 e4;simp only [Bool.and_eq_true] at h;obtain ⟨m0,m1,m2,m3,m4,m5,m6⟩:=h;exact ⟨d0,u0,d1,d2,u1,e0,e1,e2,e3,e4,by simpa using m0,m1,m2,m3,m4,m5,m6⟩
 ·cases h
theorem Z4T {A C:Sta} (h:M4 A C=true):StS A∧A.Doors.length=3∧A.Units.length=1∧C.Doors.length=3∧C.Units.length=1∧Zn A (B [101,51])=2∧Zn A (B [98,49])=-1:=by
 simp only [M4,Bool.and_eq_true] at h;obtain ⟨k0,k1,k2,k3,k4,k5,k6⟩:=h;exact ⟨(Kl A k0).e.sizes,by simpa using k1,by simpa using k2,by simpa using k3,by simpa using k4,by simpa using k5,by simpa using k6⟩
end Go.AM
namespace Go.AM
open Go
theorem ixM {α:Type} {f:α→AV} {l:List α} {i:Nat} {x:α} (h:l[i]? = some x):ixG (l.map f) (i:Int)=some (f x):=by rw [LP];exact Z6 h
theorem Z4U:pfn rE 32 []=some (.bool true):=by
 have hc1:=Z4Q;have hc2:=Z4R;have hs:=Z4P;have o1:=HM 1;have o3:=HM 3;have o9:=HM 9;have a1:=ha1;have a2:=ha2;have a3:=ha3;have a4:=ha4;have a5:=ha5;have a6:=ha6;have a7:=ha7;have a8:=ha8;have a9:=ha9;generalize ZP hS1 1 hv2=T2 at a2;generalize ZP hS1 1 hv3=T3 at a3;generalize ZP hS4 1 hv5=T5 at a5;generalize ZP hS7 0 hv8=T8 at a8;generalize ZP hS7 0 hv9=T9 at a9;generalize smp 4=T0 at hs a1;generalize hS1=T1 at hc1 hc2 a1 a2 a3 a4;generalize hS4=T4 at a4 a5 a6;generalize hS6=T6 at hc1 hc2 a6 a7;generalize hS7=T7 at a7 a8 a9;obtain ⟨hst,j1,j2,j3,j4,j5,j6⟩:=Z4T hc1;obtain ⟨d0,u0,d1,d2,u1,g0,g1,g2,g3,g4,m0,m1,m2,m3,m4,m5,m6⟩:=Z4S hc2;have hf1:=find_ok T1 hst (B [101,51]);have hf2:=find_ok T1 hst (B [98,49]);rw [j5] at hf1;rw [j6] at hf2;have hd0:=Z4M d0 tgt (by omega)
 rw [m1] at hd0;have x0:ixG (T1.Doors.map Door.enc) 0=some d0.enc:=ixM (f:=Door.enc) g0;have x1:ixG (T1.Units.map Unit'.enc) 0=some u0.enc:=ixM (f:=Unit'.enc) g1;have x2:ixG (T6.Doors.map Door.enc) 1=some d1.enc:=ixM (f:=Door.enc) g2;have x3:ixG (T6.Doors.map Door.enc) 2=some d2.enc:=ixM (f:=Door.enc) g3;have x4:ixG (T6.Units.map Unit'.enc) 0=some u1.enc:=ixM (f:=Unit'.enc) g4;simp only [hv1,hv2,hv3,hv4,hv5,hv6,hv7,hv8,hv9,zEv,nOf,evA,stA,Ent.enc,List.map_cons,List.map_nil,tgt,Door.enc,NL.enc,encS] at a1 a2 a3 a4 a5 a6 a7 a8 a9 hs hf1 hf2 x0 x1 x2 x3 x4 hd0;have y0:((0:Int)==0)=true:=rfl;have y8:((8:Int)==8)=true:=rfl;have y11:((11:Int)==11)=true:=rfl;have y12:((12:Int)==12)=true:=rfl;have y2:((2:Int)==2)=true:=rfl;have ym:((-1:Int)==-1)=true:=rfl;have w3:(((3:Nat):Int) != 3)=false:=rfl;have w1:(((1:Nat):Int) != 1)=false:=rfl;rw [Z5 (f:=32) rfl rfl];simp only [go_sem,Nat.reduceBEq,reduceAdd,reduceSub,reduceMul,reduceLT,reduceLeDiff,reduceIte,c32,hs,o1,o3,o9,a1,a2,a3,a4,a5,a6,a7,a8,a9,hf1,hf2,j1,j2,j3,j4,x0,x1,x2,x3,x4,hd0,m2,m3,m4,m5,m6,y0,y8,y11,y12,y2,ym,w3,w1,Unit'.enc]
end Go.AM
namespace Go.AM
open Go
def Zac {α:Type} (R:α→α→Prop) (N:α→Prop) (l l':List α):Prop:=
 l.length≤l'.length∧∀ i x,l'[i]? = some x→(∀ y,l[i]? = some y→R x y)∧(l.length≤i→N x)
theorem Zaj {α:Type} {R:α→α→Prop} {N:α→Prop} (hR:∀ x,R x x) (l:List α):Zac R N l l:=
 ⟨Nat.le_refl _,fun i x hx=>⟨fun y hy=>by rw [hx] at hy;cases hy;exact hR x,fun h=>by
  have:=(List.getElem?_eq_some_iff.1 hx).1;omega⟩⟩
theorem Zai {α:Type} {R:α→α→Prop} {N:α→Prop} (hR:∀ x,R x x) (l m:List α) (h:∀ x∈m,N x):Zac R N l (l++m):=
 ⟨by rw [List.length_append];omega,fun i x hx=>by
  by_cases hi:i < l.length
  ·rw [List.getElem?_append_left hi] at hx;exact ⟨fun y hy=>by rw [hx] at hy;cases hy;exact hR x,fun h=>by omega⟩
  ·rw [List.getElem?_append_right (by omega)] at hx
   refine ⟨fun y hy=>?_,fun _=>h x (List.mem_of_getElem? hx)⟩
   have:=(List.getElem?_eq_some_iff.1 hy).1;omega⟩
theorem Zau {α:Type} {R:α→α→Prop} {N:α→Prop} {l l1:List α} {k:Nat} {f:α→α} (h:Zac R N l l1) (hf:∀ x y,l[k]? = some y→R x y→R (f x) y) (hk:k < l.length):Zac R N l (ZK l1 k f):=by
 refine ⟨by rw [Xm];exact h.1,fun i x hx=>?_⟩
 by_cases hi:i=k
 ·subst hi;obtain ⟨x1,hx1⟩:∃ x1,l1[i]? = some x1:=⟨_,List.getElem?_eq_getElem (Nat.lt_of_lt_of_le hk h.1)⟩;rw [YA hx1,List.getElem?_set_self (List.getElem?_eq_some_iff.1 hx1).1] at hx;cases hx;refine ⟨fun y hy=>hf x1 y hy ((h.2 i x1 hx1).1 y hy),fun h=>by omega⟩
 ·refine h.2 i x ?_;unfold ZK at hx;split at hx
  ·rw [List.getElem?_set_ne (Ne.symm hi)] at hx;exact hx
  ·exact hx
theorem ZaE {α:Type} {R:α→α→Prop} {N:α→Prop} {l l1:List α} {f:α→α} (h:Zac R N l l1) (hl:l1.length=l.length) (hf:∀ x y,R x y→R (f x) y):Zac R N l (l1.map f):=by
 refine ⟨by rw [List.length_map];exact h.1,fun i x hx=>?_⟩
 rw [List.getElem?_map] at hx;obtain ⟨x1,hx1,rfl⟩:=Option.map_eq_some_iff.1 hx;refine ⟨fun y hy=>hf x1 y ((h.2 i x1 hx1).1 y hy),fun h=>?_⟩
 have:=(List.getElem?_eq_some_iff.1 hx1).1;omega
def ZcL (x y:Region):Prop:=x.Id=y.Id∧x.Kind=y.Kind∧x.Owner=y.Owner∧(y.Ended≠-1→x=y)
def Rs' (x y:Street):Prop:=x.Id=y.Id∧x.Owner=y.Owner∧(y.Ended≠-1→x=y)
def ZcM (x y:Building):Prop:=x.Id=y.Id∧x.Owner=y.Owner∧(y.Ended≠-1→x=y)
def ZcR (x y:Door):Prop:=x.Id=y.Id∧x.Owner=y.Owner∧x.From=y.From∧(y.Ended≠-1→x=y)
def ZcK (x y:Unit'):Prop:=x.Id=y.Id∧x.From=y.From∧(y.Ended≠-1→x=y)
theorem Zav (x:Region):ZcL x x:=⟨rfl,rfl,rfl,fun _=>rfl⟩
theorem Zaw (x:Street):Rs' x x:=⟨rfl,rfl,fun _=>rfl⟩
theorem Zax (x:Building):ZcM x x:=⟨rfl,rfl,fun _=>rfl⟩
theorem Zao (x:Door):ZcR x x:=⟨rfl,rfl,rfl,fun _=>rfl⟩
theorem Zay (x:Unit'):ZcK x x:=⟨rfl,rfl,fun _=>rfl⟩
def ZcO (a:Int) (x:Region):Prop:=x.Owner=a∧x.Ended=-1
def ZcN (a:Int) (x:Street):Prop:=x.Owner=a∧x.Ended=-1
def ZcP (a:Int) (x:Building):Prop:=x.Owner=a∧x.Ended=-1
def ZcS (a d:Int) (x:Door):Prop:=x.Owner=a∧x.Ended=-1∧x.From=d
def ZcQ (d:Int) (x:Unit'):Prop:=x.Ended=-1∧x.From=d
structure Keeps (a d:Int) (s t:Sta):Prop where
 rg:Zac ZcL (ZcO a) s.Regions t.Regions
 st:Zac Rs' (ZcN a) s.Streets t.Streets
 bu:Zac ZcM (ZcP a) s.Buildings t.Buildings
 dr:Zac ZcR (ZcS a d) s.Doors t.Doors
 un:Zac ZcK (ZcQ d) s.Units t.Units
theorem Zae (a d:Int) (s:Sta):Keeps a d s s:=⟨Zaj Zav _,Zaj Zaw _,Zaj Zax _,Zaj Zao _,Zaj Zay _⟩
theorem Zaf {α:Type} {R:α→α→Prop} {N:α→Prop} {l l1:List α} {k:Nat} {f:α→α} {en:α→Int} (h:Zac R N l l1) (hf:∀ x y,en y=-1→R x y→R (f x) y) {j:Int} {x0:α} (hj:j=(k:Int)) (hx:l[k]? = some x0) (he:en x0=-1):Zac R N l (ZK l1 j.toNat f):=by
 have hk:j.toNat=k:=by omega
 rw [hk];exact Zau h (fun x y hy hr=>hf x y (by rw [hx] at hy;cases hy;exact he) hr) (List.getElem?_eq_some_iff.1 hx).1
theorem Zap {f:Region→Region} (hf:∀ x,(f x).Id=x.Id∧(f x).Kind=x.Kind∧(f x).Owner=x.Owner) (x y:Region) (he:y.Ended=-1) (h:ZcL x y):ZcL (f x) y:=
 ⟨(hf x).1.trans h.1,(hf x).2.1.trans h.2.1,(hf x).2.2.trans h.2.2.1,fun h=>absurd he h⟩
theorem Zal {f:Street→Street} (hf:∀ x,(f x).Id=x.Id∧(f x).Owner=x.Owner) (x y:Street) (he:y.Ended=-1) (h:Rs' x y):Rs' (f x) y:=
 ⟨(hf x).1.trans h.1,(hf x).2.trans h.2.1,fun h=>absurd he h⟩
theorem ZaF {f:Building→Building} (hf:∀ x,(f x).Id=x.Id∧(f x).Owner=x.Owner) (x y:Building) (he:y.Ended=-1) (h:ZcM x y):ZcM (f x) y:=
 ⟨(hf x).1.trans h.1,(hf x).2.trans h.2.1,fun h=>absurd he h⟩
theorem Zaz {f:Door→Door} (hf:∀ x,(f x).Id=x.Id∧(f x).Owner=x.Owner∧(f x).From=x.From) (x y:Door) (he:y.Ended=-1) (h:ZcR x y):ZcR (f x) y:=
 ⟨(hf x).1.trans h.1,(hf x).2.1.trans h.2.1,(hf x).2.2.trans h.2.2.1,fun h=>absurd he h⟩
theorem ZaG {f:Unit'→Unit'} (hf:∀ x,(f x).Id=x.Id∧(f x).From=x.From) (x y:Unit') (he:y.Ended=-1) (h:ZcK x y):ZcK (f x) y:=
 ⟨(hf x).1.trans h.1,(hf x).2.trans h.2.1,fun h=>absurd he h⟩
theorem ZaA (e:Event) (a:NL Str) (u:Unit'):(UG e a u).Id=u.Id∧(UG e a u).From=u.From:=by
 unfold UG;split<;>exact ⟨rfl,rfl⟩
theorem ZaH (e:Event) (id:Str) (a:NL Str) (x y:Unit') (h:ZcK x y):ZcK (XO e id a x) y:=by
 unfold XO;cases hu:Z3P id x with
 | false=>exact h
 | true=>
  have hx:x.Ended=-1:=by
   unfold Z3P at hu;simp at hu;exact hu.2
  obtain ⟨h1,h2,h3⟩:=h;refine ⟨(ZaA e a x).1.trans h1,(ZaA e a x).2.trans h2,fun hy=>?_⟩
  have:=h3 hy;subst this;exact absurd hx hy
theorem Zam {a d:Int} {s:Sta} {w:Wk} {k:Nat} {l:NL Str} (h:Keeps a d s w.s) (hu:w.s.Units.length=s.Units.length) {x0:Door} (hx:s.Doors[k]? = some x0) (he:x0.Ended=-1):Keeps a d s (Qf w k l).s∧(Qf w k l).s.Units.length=s.Units.length:=by
 unfold Qf;split
 ·rename_i x hx1;refine ⟨⟨h.rg,h.st,h.bu,?_,?_⟩,?_⟩
  ·exact Zau h.dr (fun x y hy hr=>Zaz (f:=UF w.e l) (fun x=>⟨rfl,rfl,rfl⟩) x y (by rw [hx] at hy;cases hy;exact he) hr) (List.getElem?_eq_some_iff.1 hx).1
  ·exact ZaE h.un hu (fun x y=>ZaH _ _ _ x y)
  ·show (UH w.e x.Id l w.s.Units).length=_
   unfold UH;rw [List.length_map];exact hu
 ·exact ⟨h,hu⟩
end Go.AM
namespace Go.AM
open Go
theorem Zaq {s:Sta} {k:Int} {j:Nat} {x:Region} (hj:k=(j:Int)) (hx:s.Regions[j]? = some x) (he:WM s k=-1):x.Ended=-1:=by
 subst hj;simpa [WM,hx] using he
theorem Zan {s:Sta} {k:Int} {j:Nat} {x:Street} (hj:k=(j:Int)) (hx:s.Streets[j]? = some x) (he:QF s k=-1):x.Ended=-1:=by
 subst hj;simpa [QF,hx] using he
theorem ZaI {s:Sta} {k:Int} {j:Nat} {x:Building} (hj:k=(j:Int)) (hx:s.Buildings[j]? = some x) (he:WL s k=-1):x.Ended=-1:=by
 subst hj;simpa [WL,hx] using he
theorem ZaJ {s:Sta} {k:Int} {j:Nat} {x:Door} (hj:k=(j:Int)) (hx:s.Doors[j]? = some x) (he:QN s k=-1):x.Ended=-1:=by
 subst hj;simpa [QN,hx] using he
theorem Zah {n m:Int} (h:(n != m)=false):n=m:=by simpa using h
theorem ZaB {n:Int} (h:decide (n ≥ 0)=true):decide (n < 0)=false:=decide_eq_false (by have:=of_decide_eq_true h;omega)
theorem Zbw {a d:Int} {s t:Sta} (h:Keeps a d s t) {l:List Street} (hl:Zac Rs' (ZcN a) s.Streets l):Keeps a d s { t with Streets:=l }:=⟨h.rg,hl,h.bu,h.dr,h.un⟩
theorem ZaK (w:Wk) (h0:Hi w=0):Keeps w.owner w.e.Day w.s (Hj w).s:=by
 have hr:=Zae w.owner w.e.Day w.s;unfold Hi at h0;unfold Hj;cases c:decide (Qo w.s w.e.Id < 0) with
 | true=>exact ⟨Zai Zav _ _ (fun x hx=>by rw [List.mem_singleton] at hx;subst hx;exact ⟨rfl,rfl⟩),hr.st,hr.bu,hr.dr,hr.un⟩
 | false=>
  rw [c,cond_false] at h0;obtain ⟨j,x,hj,hx⟩:=QC c;cases c2:WM w.s (Qo w.s w.e.Id) != -1 with
  | true=>rw [c2] at h0;cases h0
  | false=>exact ⟨Zaf (en:=Region.Ended) (f:=NS w.e.Path) hr.rg (Zap (fun x=>⟨rfl,rfl,rfl⟩)) hj hx (Zaq hj hx (Zah c2)),hr.st,hr.bu,hr.dr,hr.un⟩
theorem ZaL (w:Wk) (h0:Hk w=0):Keeps w.owner w.e.Day w.s (Hl w).s:=by
 have hr:=Zae w.owner w.e.Day w.s;unfold Hk at h0;unfold Hl;cases c:decide (Qo w.s w.e.Id ≥ 0) with
 | true=>
  rw [c,ZaB c,Bool.false_and,cond_false] at h0;obtain ⟨j,x,hj,hx⟩:=QC (ZaB c);cases c2:WM w.s (Qo w.s w.e.Id) != -1 with
  | true=>rw [c2] at h0;cases h0
  | false=>exact ⟨Zaf (en:=Region.Ended) (f:=NT w.e.Names) hr.rg (Zap (fun x=>⟨rfl,rfl,rfl⟩)) hj hx (Zaq hj hx (Zah c2)),hr.st,hr.bu,hr.dr,hr.un⟩
 | false=>
  have c1:decide (Qo w.s w.e.Id < 0)=true:=decide_eq_true (by have:=of_decide_eq_false c;omega)
  rw [c1,Bool.true_and] at h0;cases c3:decide (ZL w.s w.e.Id < 0) with
  | true=>rw [c3] at h0;cases h0
  | false=>
   rw [c3,cond_false,c,K9 c3,Bool.false_and,Bool.false_or,Bool.true_and] at h0;obtain ⟨j,x,hj,hx⟩:=QC c3;cases c2:QF w.s (ZL w.s w.e.Id) != -1 with
   | true=>rw [c2] at h0;cases h0
   | false=>exact ⟨hr.rg,Zaf (en:=Street.Ended) (f:=XN w.e.Names) hr.st (Zal (fun x=>⟨rfl,rfl⟩)) hj hx (Zan hj hx (Zah c2)),hr.bu,hr.dr,hr.un⟩
theorem ZaM (w:Wk) (h0:Hm w=0):Keeps w.owner w.e.Day w.s (exW w).s:=by
 have hr:=Zae w.owner w.e.Day w.s;unfold Hm at h0;cases c1:decide (ZL w.s w.e.Id < 0) with
 | true=>rw [c1] at h0;cases h0
 | false=>
 cases c2:decide (ZL w.s w.e.Other < 0) with
 | true=>rw [c1,c2] at h0;cases h0
 | false=>
 rw [c1,c2,Bool.or_false,cond_false] at h0;cases c3:QF w.s (ZL w.s w.e.Id) != -1 with
 | true=>rw [c3] at h0;cases h0
 | false=>
 cases c4:QF w.s (ZL w.s w.e.Other) != -1 with
 | true=>rw [c3,c4] at h0;cases h0
 | false=>
  obtain ⟨j,x,hj,hx⟩:=QC c1;obtain ⟨i,y,hi,hy⟩:=QC c2;exact ⟨hr.rg,Zaf (en:=Street.Ended) (f:=XN (JF w.s (ZL w.s w.e.Id).toNat)) (Zaf (en:=Street.Ended) (f:=XN (JF w.s (ZL w.s w.e.Other).toNat)) hr.st (Zal (fun x=>⟨rfl,rfl⟩)) hj hx (Zan hj hx (Zah c3))) (Zal (fun x=>⟨rfl,rfl⟩)) hi hy (Zan hi hy (Zah c4)),hr.bu,hr.dr,hr.un⟩
theorem Zar (w:Wk) (d:Door):Keeps w.owner w.e.Day w.s (Qw w d).s:=by
 have hr:=Zae w.owner w.e.Day w.s;exact ⟨hr.rg,hr.st,hr.bu,Zai Zao _ _ (fun x hx=>by rw [List.mem_singleton] at hx;subst hx;exact ⟨rfl,rfl,rfl⟩),hr.un⟩
theorem ZaN (w:Wk) (h0:HD w=0):Keeps w.owner w.e.Day w.s (NY w).s:=by
 have hr:=Zae w.owner w.e.Day w.s;unfold HD at h0;cases c1:decide (ZL w.s w.e.Id < 0) with
 | true=>rw [c1] at h0;cases h0
 | false=>
 cases c2:w.e.Lst.l.any (Kj w.s) with
 | true=>rw [c1,c2] at h0;cases h0
 | false=>
 rw [c1,c2,Bool.or_false,cond_false] at h0;cases c3:w.e.Lst.l.any (Hz w) with
 | true=>rw [c3,Bool.or_true] at h0;cases h0
 | false=>
 refine ⟨hr.rg,hr.st,hr.bu,?_,hr.un⟩;show Zac ZcR _ w.s.Doors (Yn w.s.Doors w.e.Lst.l w.e.Lst.l.length)
 have key:∀ i,Zac ZcR (ZcS w.owner w.e.Day) w.s.Doors (Yn w.s.Doors w.e.Lst.l i):=by
  intro i;induction i with
  | zero=>exact hr.dr
  | succ i ih=>
   unfold Yn;split
   ·rename_i x hx;have hm:=List.mem_of_getElem? hx;have b1:Kj w.s x=false:=by simpa using List.any_eq_false.1 c2 x hm
    have b2:Hz w x=false:=by simpa using List.any_eq_false.1 c3 x hm
    unfold Kj at b1;unfold Hz at b2;rw [Bool.or_eq_false_iff] at b2;have hf:Kk (Yn w.s.Doors w.e.Lst.l i) x.Id=Zn w.s x.Id:=Z4o (HA _ _ _) _;obtain ⟨j,y,hj,hy⟩:=QC b1;have hj':Zn w.s x.Id=(j:Int):=hj;exact Zaf (en:=Door.Ended) (f:=UP x.Number) ih (Zaz (fun x=>⟨rfl,rfl,rfl⟩)) (hf.trans hj') hy (ZaJ hj' hy (Zah b2.1))
   ·exact ih
 exact key _
end Go.AM
namespace Go.AM
open Go
theorem Zas {s:Sta} {k:Int} (he:QN s k=-1):∃ x,s.Doors[k.toNat]? = some x∧x.Ended=-1:=by
 unfold QN at he;split at he
 ·rename_i x hx;exact ⟨x,hx,he⟩
 ·cases he
theorem ZaO (w:Wk) (h0:Ka w=0):Keeps w.owner w.e.Day w.s (Kb w).s:=by
 have hr:=Zae w.owner w.e.Day w.s;unfold Ka at h0;cases c1:!WO w w.e.Lst.l with
 | true=>rw [c1] at h0;cases h0
 | false=>
 cases c2:decide (Zn w.s w.e.Id < 0) with
 | true=>rw [c1,c2] at h0;cases h0
 | false=>
 rw [c1,c2,cond_false,cond_false] at h0;cases c3:QN w.s (Zn w.s w.e.Id) != -1 with
 | true=>rw [c3] at h0;cases h0
 | false=>
 obtain ⟨x,hx,he⟩:=Zas (Zah c3);unfold Kb;rw [hx];have h1:Keeps w.owner w.e.Day w.s (Y5 w x w.e.Lst.l).s:=
  ⟨hr.rg,hr.st,hr.bu,Zai Zao _ _ (fun y hy=>by
   obtain ⟨z,_,rfl⟩:=List.mem_map.1 hy;exact ⟨rfl,rfl,rfl⟩),hr.un⟩
 exact (Zam (w:=Y5 w x w.e.Lst.l) h1 rfl hx he).1
theorem ZaC {a d:Int} {s:Sta} {n:NL Str}:∀ (l:List Int) {w:Wk},(∀ k∈l,QN s k=-1)→Keeps a d s w.s→w.s.Units.length=s.Units.length→Keeps a d s (Yg w l n).s
 | [],_,_,h,_=>h
 | k::r,w,hl,h,hu=>by
  obtain ⟨x,hx,he⟩:=Zas (hl k (List.mem_cons_self ..));obtain ⟨h1,h2⟩:=Zam (w:=w) (k:=k.toNat) (l:=n) h hu hx he;exact ZaC r (w:=Qf w k.toNat n) (fun k hk=>hl k (List.mem_cons_of_mem _ hk)) h1 h2
theorem ZaP (w:Wk) (h0:Kc w=0):Keeps w.owner w.e.Day w.s (Kd w).s:=by
 unfold Kc at h0;cases c1:twB w w.e.Id with
 | true=>rw [c1] at h0;cases h0
 | false=>
 cases c2:(Zf w).any (fun x=>-1==x) with
 | true=>rw [c1,c2] at h0;cases h0
 | false=>
 rw [c1,c2,cond_false,cond_false] at h0;rw [QE] at h0;cases c3:(Zf w).all (fun k=>JG w.s (XP w.s ((Zf w).headD 0)) k) with
 | false=>rw [c3] at h0;cases h0
 | true=>
 have hk:∀ k∈Zf w,QN w.s k=-1:=fun k hk=>by
  have:=List.all_eq_true.1 c3 k hk;unfold JG at this;simp at this;exact this.1.1
 unfold Kd;split
 ·exact ZaC _ hk (Zar w _) rfl
 ·exact Zae _ _ _
theorem ZaQ (w:Wk) (h0:Hs w=0):Keeps w.owner w.e.Day w.s (Ht w).s:=by
 have hr:=Zae w.owner w.e.Day w.s;unfold Hs at h0;cases c1:decide (Y1 w.s w.e.Id < 0) with
 | true=>rw [c1] at h0;cases h0
 | false=>
 cases c2:WL w.s (Y1 w.s w.e.Id) != -1 with
 | true=>rw [c1,c2] at h0;cases h0
 | false=>
 obtain ⟨j,x,hj,hx⟩:=QC c1;have h1:Keeps w.owner w.e.Day w.s (JH w (ZK w.s.Buildings (Y1 w.s w.e.Id).toNat (Ke w.e))).s:=
  ⟨hr.rg,hr.st,Zaf (en:=Building.Ended) (f:=Ke w.e) hr.bu (ZaF (fun x=>⟨rfl,rfl⟩)) hj hx (ZaI hj hx (Zah c2)),hr.dr,hr.un⟩
 unfold Ht;have key:∀ i,Keeps w.owner w.e.Day w.s (Y6 (JH w (ZK w.s.Buildings (Y1 w.s w.e.Id).toNat (Ke w.e))) w.s.Doors i).s∧(Y6 (JH w (ZK w.s.Buildings (Y1 w.s w.e.Id).toNat (Ke w.e))) w.s.Doors i).s.Units.length=w.s.Units.length:=by
  intro i;induction i with
  | zero=>exact ⟨h1,rfl⟩
  | succ i ih=>
   unfold Y6;split
   ·rename_i y hy;cases hh:NV (JH w (ZK w.s.Buildings (Y1 w.s w.e.Id).toNat (Ke w.e))).e.Id y with
    | false=>exact ih
    | true=>
     have he:y.Ended=-1:=by
      unfold NV at hh;simp at hh;exact hh.2
     exact Zam ih.1 ih.2 hy he
   ·exact ih
 exact (key _).1
theorem ZaR (w:Wk) (h0:Hw w=0):Keeps w.owner w.e.Day w.s (Hy w).s:=by
 have hr:=Zae w.owner w.e.Day w.s;unfold Hw at h0;unfold Hy;cases c1:Kg w.s w.e.Id with
 | true=>
  unfold Kg at c1;rw [Bool.and_eq_true] at c1;obtain ⟨j,x,hj,hx⟩:=QC (P:=fun x:Region=>Z3 x.Id w.e.Id) (l:=w.s.Regions) (by have:=c1.1;unfold Qo at this;simpa using this)
  have hj':Qo w.s w.e.Id=(j:Int):=hj;exact ⟨Zaf (en:=Region.Ended) (f:=UL w.e) hr.rg (Zap (fun x=>⟨rfl,rfl,rfl⟩)) hj' hx (Zaq hj' hx (by have:=c1.2;simpa using this)),hr.st,hr.bu,hr.dr,hr.un⟩
 | false=>
 cases c2:Kh w.s w.e.Id with
 | true=>
  unfold Kh at c2;rw [Bool.and_eq_true] at c2;obtain ⟨j,x,hj,hx⟩:=QC (P:=fun x:Street=>Z3 x.Id w.e.Id) (l:=w.s.Streets) (by have:=c2.1;unfold ZL at this;simpa using this)
  have hj':ZL w.s w.e.Id=(j:Int):=hj;exact ⟨hr.rg,Zaf (en:=Street.Ended) (f:=UM w.e) hr.st (Zal (fun x=>⟨rfl,rfl⟩)) hj' hx (Zan hj' hx (by have:=c2.2;simpa using this)),hr.bu,hr.dr,hr.un⟩
 | false=>
 cases c3:Ki w.s w.e.Id with
 | true=>
  unfold Ki at c3;rw [Bool.and_eq_true] at c3;obtain ⟨x,hx,he⟩:=Zas (s:=w.s) (k:=Zn w.s w.e.Id) (by have:=c3.2;simpa using this)
  exact (Zam hr rfl hx he).1
 | false=>
 rw [c1,c2,c3,cond_false,cond_false,cond_false] at h0;cases c4:UO w.s w.e.Id with
 | false=>
  rw [c4,cond_false] at h0;cases hz:twB w w.e.Id&&decide (Y1 w.s w.e.Id < 0) with
  | true=>rw [hz] at h0;cases h0
  | false=>rw [hz] at h0;cases h0
 | true=>
  unfold UO at c4;rw [Bool.and_eq_true] at c4;obtain ⟨j,x,hj,hx⟩:=QC (P:=fun x:Unit'=>Z3 x.Id w.e.Id) (l:=w.s.Units) (by have:=c4.1;unfold Wf at this;simpa using this)
  have hj':Wf w.s w.e.Id=(j:Int):=hj;have he:x.Ended=-1:=by
   have h:=c4.2;rw [hj'] at h;simpa [NW,hx] using h
  exact ⟨hr.rg,hr.st,hr.bu,hr.dr,Zaf (en:=Unit'.Ended) (f:=UN w.e) hr.un (ZaG (fun x=>⟨rfl,rfl⟩)) hj hx he⟩
theorem ZaS (w:Wk) (h0:Q1 w=0):Keeps w.owner w.e.Day w.s (stepW w).s:=by
 have hr:=Zae w.owner w.e.Day w.s;unfold Q1 at h0;unfold stepW;split
 ·rename_i hk;rw [hk] at h0;exact ZaK w h0
 ·exact ⟨hr.rg,Zai Zaw _ _ (fun x hx=>by rw [List.mem_singleton] at hx;subst hx;exact ⟨rfl,rfl⟩),hr.bu,hr.dr,hr.un⟩
 ·rename_i hk;rw [hk] at h0;exact ZaL w h0
 ·rename_i hk;rw [hk] at h0;exact ZaM w h0
 ·exact ⟨hr.rg,hr.st,Zai Zax _ _ (fun x hx=>by rw [List.mem_singleton] at hx;subst hx;exact ⟨rfl,rfl⟩),hr.dr,hr.un⟩
 ·exact Zar w _
 ·exact ⟨hr.rg,hr.st,hr.bu,hr.dr,Zai Zay _ _ (fun x hx=>by rw [List.mem_singleton] at hx;subst hx;exact ⟨rfl,rfl⟩)⟩
 ·rename_i hk;rw [hk] at h0;exact ZaN w h0
 ·rename_i hk;rw [hk] at h0;exact ZaO w h0
 ·rename_i hk;rw [hk] at h0;exact ZaP w h0
 ·rename_i hk;rw [hk] at h0;exact ZaQ w h0
 ·rename_i hk;rw [hk] at h0;exact ZaR w h0
 ·exact ⟨hr.rg,hr.st,hr.bu,hr.dr,hr.un⟩
 ·exact ⟨hr.rg,hr.st,hr.bu,hr.dr,hr.un⟩
 ·exact Zar w _
theorem ZaT (s:Sta) (a:Int) (e:Event) (h:Qk s a e=0):Keeps a e.Day s (ZP s a e):=by
 unfold Qk at h;unfold ZP;cases c1:okB s a e with
 | false=>rw [c1] at h;cases h
 | true=>
 cases c2:Q1 (wk0 s a e)==0 with
 | false=>
  rw [c1,c2,cond_true,cond_false] at h;rw [h] at c2;cases c2
 | true=>
 cases c3:Wh (stepW (wk0 s a e)).s.Doors with
 | false=>rw [c1,c2,c3] at h;cases h
 | true=>exact ZaS (wk0 s a e) (by simpa using c2)
end Go.AM
namespace Go.AM
open Go
theorem Zad (x:Str):Z3 x x=true:=by unfold Z3;exact beq_self_eq_true _
theorem Zat (ex:Bool) (l:List Pt) (hl:l.length≤1000):pfn rE 51 [.isl false ex 2 (l.map Pt.enc),.isl false ex 2 (l.map Pt.enc)]=some (.bool true):=by
 rw [Z5 (f:=51) rfl rfl];have L:=Y8 (E:=rE) (live:=[0,1,5]) (b:=c51L0b) l.length (fun i=>[(0,.isl false ex 2 (l.map Pt.enc)),(1,.isl false ex 2 (l.map Pt.enc)),(5,I i)]) (fun i=>[]) (fun i=>rfl)
  (fun i hi=>by
   obtain ⟨x,hx⟩:∃ x,l[i]? = some x:=⟨_,List.getElem?_eq_getElem hi⟩;have hg:=Z6 (f:=Pt.enc) hx;have hi':=Zh hi;have hwr:=Zx (n:=i) (by omega)
   refine ⟨[(0,.isl false ex 2 (l.map Pt.enc)),(1,.isl false ex 2 (l.map Pt.enc)),(4,.bot),(5,I (i+1:Nat))],?_,rfl⟩;simp only [go_sem,Nat.reduceBEq,reduceAdd,reduceSub,reduceMul,reduceLT,reduceLeDiff,reduceIte,c51L0b,hg,hi',hwr,Pt.enc,beq_self_eq_true])
  (e:=.exit 0) (fr:=[(0,.isl false ex 2 (l.map Pt.enc)),(1,.isl false ex 2 (l.map Pt.enc)),(4,.bot),(5,I l.length)]) (h:=[]) (by simp only [go_sem,Nat.reduceBEq,reduceAdd,reduceSub,reduceMul,reduceLT,reduceLeDiff,reduceIte,c51L0b,ZG]) (by simp)
 have hne:((l.length:Int) != (l.length:Int))=false:=by simp
 have L':Zg rE [0,1,5] c51L0b [(0,.isl false ex 2 (l.map Pt.enc)),(1,.isl false ex 2 (l.map Pt.enc)),(5,.int .i64 0)] []=_:=L;simp only [go_sem,Nat.reduceBEq,reduceAdd,reduceSub,reduceMul,reduceLT,reduceLeDiff,reduceIte,c51,c51L0,L',hne]
theorem ZaD (ex:Bool) (l:List Nm) (hl:l.length≤1000):pfn rE 110 [.isl false ex 3 (l.map Nm.enc),.isl false ex 3 (l.map Nm.enc)]=some (.bool true):=by
 rw [Z5 (f:=110) rfl rfl];have L:=Y8 (E:=rE) (live:=[0,1,5]) (b:=c110L0b) l.length (fun i=>[(0,.isl false ex 3 (l.map Nm.enc)),(1,.isl false ex 3 (l.map Nm.enc)),(5,I i)]) (fun i=>[]) (fun i=>rfl)
  (fun i hi=>by
   obtain ⟨x,hx⟩:∃ x,l[i]? = some x:=⟨_,List.getElem?_eq_getElem hi⟩;have hg:=Z6 (f:=Nm.enc) hx;have hi':=Zh hi;have hwr:=Zx (n:=i) (by omega)
   refine ⟨[(0,.isl false ex 3 (l.map Nm.enc)),(1,.isl false ex 3 (l.map Nm.enc)),(4,.bot),(5,I (i+1:Nat))],?_,rfl⟩;simp only [go_sem,Nat.reduceBEq,reduceAdd,reduceSub,reduceMul,reduceLT,reduceLeDiff,reduceIte,c110L0b,hg,hi',hwr,Nm.enc,Zad,beq_self_eq_true])
  (e:=.exit 0) (fr:=[(0,.isl false ex 3 (l.map Nm.enc)),(1,.isl false ex 3 (l.map Nm.enc)),(4,.bot),(5,I l.length)]) (h:=[]) (by simp only [go_sem,Nat.reduceBEq,reduceAdd,reduceSub,reduceMul,reduceLT,reduceLeDiff,reduceIte,c110L0b,ZG]) (by simp)
 have hne:((l.length:Int) != (l.length:Int))=false:=by simp
 have L':Zg rE [0,1,5] c110L0b [(0,.isl false ex 3 (l.map Nm.enc)),(1,.isl false ex 3 (l.map Nm.enc)),(5,.int .i64 0)] []=_:=L;simp only [go_sem,Nat.reduceBEq,reduceAdd,reduceSub,reduceMul,reduceLT,reduceLeDiff,reduceIte,c110,c110L0,L',hne]
theorem ZaU (x:Region) (h1:x.Ring.l.length≤1000) (h2:x.Names.l.length≤1000):pfn rE 36 [x.enc,x.enc]=some (.bool true):=by
 have hp:=Zat x.Ring.ex x.Ring.l h1;have hn:=ZaD x.Names.ex x.Names.l h2;rw [Z5 (f:=36) rfl rfl];simp only [go_sem,Nat.reduceBEq,reduceAdd,reduceSub,reduceMul,reduceLT,reduceLeDiff,reduceIte,c36,Region.enc,NL.enc,Zad,beq_self_eq_true,hp,hn]
theorem ZaV (x:Street) (h1:x.Line.l.length≤1000) (h2:x.Names.l.length≤1000):pfn rE 37 [x.enc,x.enc]=some (.bool true):=by
 have hp:=Zat x.Line.ex x.Line.l h1;have hn:=ZaD x.Names.ex x.Names.l h2;rw [Z5 (f:=37) rfl rfl];simp only [go_sem,Nat.reduceBEq,reduceAdd,reduceSub,reduceMul,reduceLT,reduceLeDiff,reduceIte,c37,Street.enc,NL.enc,Zad,beq_self_eq_true,hp,hn]
theorem ZaW (x:Building) (h1:x.Ring.l.length≤1000):pfn rE 38 [x.enc,x.enc]=some (.bool true):=by
 have hp:=Zat x.Ring.ex x.Ring.l h1;rw [Z5 (f:=38) rfl rfl];simp only [go_sem,Nat.reduceBEq,reduceAdd,reduceSub,reduceMul,reduceLT,reduceLeDiff,reduceIte,c38,Building.enc,NL.enc,Zad,beq_self_eq_true,hp]
theorem ZaX (l:List Str):HK l l=true:=by
 unfold HK;rw [beq_self_eq_true,Bool.true_and];have:∀ (m:List Str) (i:Nat),(∀ j x,m[j]? = some x→l[i+j]? = some x)→Zu (fun i x=>match l[i]? with | some y=>Z3 x y | none=>false) i m=true:=by
  intro m;induction m with
  | nil=>intro i h;rfl
  | cons x r ih=>
   intro i h;have h0:=h 0 x rfl;rw [Nat.add_zero] at h0;unfold Zu;rw [h0];simp only [Zad,Bool.true_and];exact ih (i+1) (fun j y hy=>by rw [Nat.add_assoc,Nat.add_comm 1 j];exact h (j+1) y hy)
 exact this l 0 (fun j x h=>by rw [Nat.zero_add];exact h)
theorem ZaY (x:Door) (h:x.After.l.length≤1000):pfn rE 39 [x.enc,x.enc]=some (.bool true):=by
 rw [Z4M x x h];unfold HL FU QL QK;simp only [Zad,ZaX,beq_self_eq_true,bne_self_eq_false,Bool.not_true,Bool.or_false,Bool.not_false,Bool.and_true]
end Go.AM
namespace Go.AM
open Go
theorem ZaZ (s t:Sta) (a:Int) (e:Event) (hE:StE s) (hn:t.Regions.length≤1000) (hK:Keeps a e.Day s t):Zg rE [1,3,5,7,8,10] c7L0b [(1,I a),(3,stI s),(5,evI e),(7,.bool true),(8,.ptr 0 0 0 1),(10,.int .i64 0)] [.row 7 [stA t]] =
 some (.exit 0,[(1,I a),(3,stI s),(5,evI e),(6,.bot),(7,.bool true),(8,.ptr 0 0 0 1),(10,I t.Regions.length)],[.row 7 [stA t]]):=by
 have L:=Y8 (E:=rE) (live:=[1,3,5,7,8,10]) (b:=c7L0b) t.Regions.length (fun i=>[(1,I a),(3,stI s),(5,evI e),(7,.bool true),(8,.ptr 0 0 0 1),(10,I i)]) (fun i=>[.row 7 [stA t]]) (fun i=>rfl)
  (fun i hi=>by
   obtain ⟨x,hx⟩:∃ x,t.Regions[i]? = some x:=⟨_,List.getElem?_eq_getElem hi⟩;have hg:=Z6 (f:=Region.enc) hx;have hi':=Zh hi;have hwr:=Zx (n:=i) (by omega)
   obtain ⟨hR,hN⟩:=hK.rg.2 i x hx;refine ⟨[(1,I a),(3,stI s),(5,evI e),(6,.bot),(7,.bool true),(8,.ptr 0 0 0 1),(10,I (i+1:Nat))],?_,rfl⟩;cases c:decide ((i:Int) ≥ (s.Regions.length:Int)) with
   | true=>
    obtain ⟨n0,n1⟩:=hN (by have:=of_decide_eq_true c;omega)
    have m0:(x.Owner==a)=true:=beq_iff_eq.2 n0;have m1:(x.Ended==-1)=true:=beq_iff_eq.2 n1;simp only [go_sem,Nat.reduceBEq,reduceAdd,reduceSub,reduceMul,reduceLT,reduceLeDiff,reduceIte,c7L0b,hg,hi',hwr,c,Region.enc,NL.enc,m0,m1]
   | false=>
    obtain ⟨y,hy⟩:∃ y,s.Regions[i]? = some y:=⟨_,List.getElem?_eq_getElem (by have:=of_decide_eq_false c;omega)⟩
    have hg2:=Z6 (f:=Region.enc) hy;have hR':=hR y hy;have hlt:((i:Int) < (s.Regions.length:Int)):=by have:=of_decide_eq_false c;omega
    have k0:Z3 x.Id y.Id=true:=by rw [hR'.1];exact Zad _
    have k1:(x.Kind != y.Kind)=false:=bne_eq_false_iff_eq.2 hR'.2.1;have k2:(x.Owner != y.Owner)=false:=bne_eq_false_iff_eq.2 hR'.2.2.1;cases c2:y.Ended != -1 with
    | false=>simp only [go_sem,Nat.reduceBEq,reduceAdd,reduceSub,reduceMul,reduceLT,reduceLeDiff,reduceIte,c7L0b,hg,hg2,hi',hwr,c,c2,hlt,if_true,Region.enc,NL.enc,k0,k1,k2]
    | true=>
     have hxy:x=y:=hR'.2.2.2 (by simpa using c2)
     subst hxy;have hm:=List.mem_of_getElem? hy;have hS:=ZaU x (Nat.le_trans (hE.regions x hm).2.1 (by omega)) (Nat.le_trans (hE.regions x hm).1 (by omega))
     simp only [Region.enc,NL.enc] at hS;simp only [go_sem,Nat.reduceBEq,reduceAdd,reduceSub,reduceMul,reduceLT,reduceLeDiff,reduceIte,c7L0b,hg,hg2,hi',hwr,c,c2,hlt,if_true,Region.enc,NL.enc,k0,k1,k2,hS])
  (e:=.exit 0) (fr:=[(1,I a),(3,stI s),(5,evI e),(6,.bot),(7,.bool true),(8,.ptr 0 0 0 1),(10,I t.Regions.length)]) (h:=[.row 7 [stA t]]) (by simp only [go_sem,Nat.reduceBEq,reduceAdd,reduceSub,reduceMul,reduceLT,reduceLeDiff,reduceIte,c7L0b,ZG]) (by simp)
 exact L
theorem Zb0 (s t:Sta) (a:Int) (e:Event) (hE:StE s) (hn:t.Streets.length≤1000) (hK:Keeps a e.Day s t):Zg rE [1,3,5,7,8,13] c7L1b [(1,I a),(3,stI s),(5,evI e),(7,.bool true),(8,.ptr 0 0 0 1),(13,.int .i64 0)] [.row 7 [stA t]] =
 some (.exit 2,[(1,I a),(3,stI s),(5,evI e),(6,.bot),(7,.bool true),(8,.ptr 0 0 0 1),(13,I t.Streets.length)],[.row 7 [stA t]]):=by
 have L:=Y8 (E:=rE) (live:=[1,3,5,7,8,13]) (b:=c7L1b) t.Streets.length (fun i=>[(1,I a),(3,stI s),(5,evI e),(7,.bool true),(8,.ptr 0 0 0 1),(13,I i)]) (fun i=>[.row 7 [stA t]]) (fun i=>rfl)
  (fun i hi=>by
   obtain ⟨x,hx⟩:∃ x,t.Streets[i]? = some x:=⟨_,List.getElem?_eq_getElem hi⟩;have hg:=Z6 (f:=Street.enc) hx;have hi':=Zh hi;have hwr:=Zx (n:=i) (by omega)
   obtain ⟨hR,hN⟩:=hK.st.2 i x hx;refine ⟨[(1,I a),(3,stI s),(5,evI e),(6,.bot),(7,.bool true),(8,.ptr 0 0 0 1),(13,I (i+1:Nat))],?_,rfl⟩;cases c:decide ((i:Int) ≥ (s.Streets.length:Int)) with
   | true=>
    obtain ⟨n0,n1⟩:=hN (by have:=of_decide_eq_true c;omega)
    have m0:(x.Owner==a)=true:=beq_iff_eq.2 n0;have m1:(x.Ended==-1)=true:=beq_iff_eq.2 n1;simp only [go_sem,Nat.reduceBEq,reduceAdd,reduceSub,reduceMul,reduceLT,reduceLeDiff,reduceIte,c7L1b,hg,hi',hwr,c,Street.enc,NL.enc,m0,m1]
   | false=>
    obtain ⟨y,hy⟩:∃ y,s.Streets[i]? = some y:=⟨_,List.getElem?_eq_getElem (by have:=of_decide_eq_false c;omega)⟩
    have hg2:=Z6 (f:=Street.enc) hy;have hR':=hR y hy;have hlt:((i:Int) < (s.Streets.length:Int)):=by have:=of_decide_eq_false c;omega
    have k0:Z3 x.Id y.Id=true:=by rw [hR'.1];exact Zad _
    have k1:(x.Owner != y.Owner)=false:=bne_eq_false_iff_eq.2 hR'.2.1;cases c2:y.Ended != -1 with
    | false=>simp only [go_sem,Nat.reduceBEq,reduceAdd,reduceSub,reduceMul,reduceLT,reduceLeDiff,reduceIte,c7L1b,hg,hg2,hi',hwr,c,c2,hlt,if_true,Street.enc,NL.enc,k0,k1]
    | true=>
     have hxy:x=y:=hR'.2.2 (by simpa using c2)
     subst hxy;have hm:=List.mem_of_getElem? hy;have hS:=ZaV x (Nat.le_trans (hE.streets x hm).2.1 (by omega)) (Nat.le_trans (hE.streets x hm).1 (by omega))
     simp only [Street.enc,NL.enc] at hS;simp only [go_sem,Nat.reduceBEq,reduceAdd,reduceSub,reduceMul,reduceLT,reduceLeDiff,reduceIte,c7L1b,hg,hg2,hi',hwr,c,c2,hlt,if_true,Street.enc,NL.enc,k0,k1,hS])
  (e:=.exit 2) (fr:=[(1,I a),(3,stI s),(5,evI e),(6,.bot),(7,.bool true),(8,.ptr 0 0 0 1),(13,I t.Streets.length)]) (h:=[.row 7 [stA t]]) (by simp only [go_sem,Nat.reduceBEq,reduceAdd,reduceSub,reduceMul,reduceLT,reduceLeDiff,reduceIte,c7L1b,ZG]) (by simp)
 exact L
theorem Zb1 (s t:Sta) (a:Int) (e:Event) (hE:StE s) (hn:t.Buildings.length≤1000) (hK:Keeps a e.Day s t):Zg rE [1,3,5,7,8,16] c7L2b [(1,I a),(3,stI s),(5,evI e),(7,.bool true),(8,.ptr 0 0 0 1),(16,.int .i64 0)] [.row 7 [stA t]] =
 some (.exit 4,[(1,I a),(3,stI s),(5,evI e),(6,.bot),(7,.bool true),(8,.ptr 0 0 0 1),(16,I t.Buildings.length)],[.row 7 [stA t]]):=by
 have L:=Y8 (E:=rE) (live:=[1,3,5,7,8,16]) (b:=c7L2b) t.Buildings.length (fun i=>[(1,I a),(3,stI s),(5,evI e),(7,.bool true),(8,.ptr 0 0 0 1),(16,I i)]) (fun i=>[.row 7 [stA t]]) (fun i=>rfl)
  (fun i hi=>by
   obtain ⟨x,hx⟩:∃ x,t.Buildings[i]? = some x:=⟨_,List.getElem?_eq_getElem hi⟩;have hg:=Z6 (f:=Building.enc) hx;have hi':=Zh hi;have hwr:=Zx (n:=i) (by omega)
   obtain ⟨hR,hN⟩:=hK.bu.2 i x hx;refine ⟨[(1,I a),(3,stI s),(5,evI e),(6,.bot),(7,.bool true),(8,.ptr 0 0 0 1),(16,I (i+1:Nat))],?_,rfl⟩;cases c:decide ((i:Int) ≥ (s.Buildings.length:Int)) with
   | true=>
    obtain ⟨n0,n1⟩:=hN (by have:=of_decide_eq_true c;omega)
    have m0:(x.Owner==a)=true:=beq_iff_eq.2 n0;have m1:(x.Ended==-1)=true:=beq_iff_eq.2 n1;simp only [go_sem,Nat.reduceBEq,reduceAdd,reduceSub,reduceMul,reduceLT,reduceLeDiff,reduceIte,c7L2b,hg,hi',hwr,c,Building.enc,NL.enc,m0,m1]
   | false=>
    obtain ⟨y,hy⟩:∃ y,s.Buildings[i]? = some y:=⟨_,List.getElem?_eq_getElem (by have:=of_decide_eq_false c;omega)⟩
    have hg2:=Z6 (f:=Building.enc) hy;have hR':=hR y hy;have hlt:((i:Int) < (s.Buildings.length:Int)):=by have:=of_decide_eq_false c;omega
    have k0:Z3 x.Id y.Id=true:=by rw [hR'.1];exact Zad _
    have k1:(x.Owner != y.Owner)=false:=bne_eq_false_iff_eq.2 hR'.2.1;cases c2:y.Ended != -1 with
    | false=>simp only [go_sem,Nat.reduceBEq,reduceAdd,reduceSub,reduceMul,reduceLT,reduceLeDiff,reduceIte,c7L2b,hg,hg2,hi',hwr,c,c2,hlt,if_true,Building.enc,NL.enc,k0,k1]
    | true=>
     have hxy:x=y:=hR'.2.2 (by simpa using c2)
     subst hxy;have hm:=List.mem_of_getElem? hy;have hS:=ZaW x (Nat.le_trans (hE.buildings x hm).1 (by omega))
     simp only [Building.enc,NL.enc] at hS;simp only [go_sem,Nat.reduceBEq,reduceAdd,reduceSub,reduceMul,reduceLT,reduceLeDiff,reduceIte,c7L2b,hg,hg2,hi',hwr,c,c2,hlt,if_true,Building.enc,NL.enc,k0,k1,hS])
  (e:=.exit 4) (fr:=[(1,I a),(3,stI s),(5,evI e),(6,.bot),(7,.bool true),(8,.ptr 0 0 0 1),(16,I t.Buildings.length)]) (h:=[.row 7 [stA t]]) (by simp only [go_sem,Nat.reduceBEq,reduceAdd,reduceSub,reduceMul,reduceLT,reduceLeDiff,reduceIte,c7L2b,ZG]) (by simp)
 exact L
theorem Zb2 (s t:Sta) (a:Int) (e:Event) (hE:StE s) (hn:t.Doors.length≤1000) (hK:Keeps a e.Day s t):Zg rE [1,3,5,7,8,19] c7L3b [(1,I a),(3,stI s),(5,evI e),(7,.bool true),(8,.ptr 0 0 0 1),(19,.int .i64 0)] [.row 7 [stA t]] =
 some (.exit 6,[(1,I a),(3,stI s),(5,evI e),(6,.bot),(7,.bool true),(8,.ptr 0 0 0 1),(19,I t.Doors.length)],[.row 7 [stA t]]):=by
 have L:=Y8 (E:=rE) (live:=[1,3,5,7,8,19]) (b:=c7L3b) t.Doors.length (fun i=>[(1,I a),(3,stI s),(5,evI e),(7,.bool true),(8,.ptr 0 0 0 1),(19,I i)]) (fun i=>[.row 7 [stA t]]) (fun i=>rfl)
  (fun i hi=>by
   obtain ⟨x,hx⟩:∃ x,t.Doors[i]? = some x:=⟨_,List.getElem?_eq_getElem hi⟩;have hg:=Z6 (f:=Door.enc) hx;have hi':=Zh hi;have hwr:=Zx (n:=i) (by omega)
   obtain ⟨hR,hN⟩:=hK.dr.2 i x hx;refine ⟨[(1,I a),(3,stI s),(5,evI e),(6,.bot),(7,.bool true),(8,.ptr 0 0 0 1),(19,I (i+1:Nat))],?_,rfl⟩;cases c:decide ((i:Int) ≥ (s.Doors.length:Int)) with
   | true=>
    obtain ⟨n0,n1,n2⟩:=hN (by have:=of_decide_eq_true c;omega)
    have m0:(x.Owner==a)=true:=beq_iff_eq.2 n0;have m1:(x.Ended==-1)=true:=beq_iff_eq.2 n1;have m2:(x.From==e.Day)=true:=beq_iff_eq.2 n2;simp only [go_sem,Nat.reduceBEq,reduceAdd,reduceSub,reduceMul,reduceLT,reduceLeDiff,reduceIte,c7L3b,hg,hi',hwr,c,Door.enc,NL.enc,m0,m1,m2]
   | false=>
    obtain ⟨y,hy⟩:∃ y,s.Doors[i]? = some y:=⟨_,List.getElem?_eq_getElem (by have:=of_decide_eq_false c;omega)⟩
    have hg2:=Z6 (f:=Door.enc) hy;have hR':=hR y hy;have hlt:((i:Int) < (s.Doors.length:Int)):=by have:=of_decide_eq_false c;omega
    have k0:Z3 x.Id y.Id=true:=by rw [hR'.1];exact Zad _
    have k1:(x.Owner != y.Owner)=false:=bne_eq_false_iff_eq.2 hR'.2.1;have k2:(x.From != y.From)=false:=bne_eq_false_iff_eq.2 hR'.2.2.1;cases c2:y.Ended != -1 with
    | false=>simp only [go_sem,Nat.reduceBEq,reduceAdd,reduceSub,reduceMul,reduceLT,reduceLeDiff,reduceIte,c7L3b,hg,hg2,hi',hwr,c,c2,hlt,if_true,Door.enc,NL.enc,k0,k1,k2]
    | true=>
     have hxy:x=y:=hR'.2.2.2 (by simpa using c2)
     subst hxy;have hm:=List.mem_of_getElem? hy;have hS:=ZaY x (by have:=(hE.doors x hm).after;omega)
     simp only [Door.enc,NL.enc] at hS;simp only [go_sem,Nat.reduceBEq,reduceAdd,reduceSub,reduceMul,reduceLT,reduceLeDiff,reduceIte,c7L3b,hg,hg2,hi',hwr,c,c2,hlt,if_true,Door.enc,NL.enc,k0,k1,k2,hS])
  (e:=.exit 6) (fr:=[(1,I a),(3,stI s),(5,evI e),(6,.bot),(7,.bool true),(8,.ptr 0 0 0 1),(19,I t.Doors.length)]) (h:=[.row 7 [stA t]]) (by simp only [go_sem,Nat.reduceBEq,reduceAdd,reduceSub,reduceMul,reduceLT,reduceLeDiff,reduceIte,c7L3b,ZG]) (by simp)
 exact L
theorem Zb3 (s t:Sta) (a:Int) (e:Event) (hE:StE s) (hn:t.Units.length≤1000) (hK:Keeps a e.Day s t):Zg rE [3,5,7,8,22] c7L4b [(3,stI s),(5,evI e),(7,.bool true),(8,.ptr 0 0 0 1),(22,.int .i64 0)] [.row 7 [stA t]] =
 some (.exit 8,[(3,stI s),(5,evI e),(6,.bot),(7,.bool true),(8,.ptr 0 0 0 1),(22,I t.Units.length)],[.row 7 [stA t]]):=by
 have L:=Y8 (E:=rE) (live:=[3,5,7,8,22]) (b:=c7L4b) t.Units.length (fun i=>[(3,stI s),(5,evI e),(7,.bool true),(8,.ptr 0 0 0 1),(22,I i)]) (fun i=>[.row 7 [stA t]]) (fun i=>rfl)
  (fun i hi=>by
   obtain ⟨x,hx⟩:∃ x,t.Units[i]? = some x:=⟨_,List.getElem?_eq_getElem hi⟩;have hg:=Z6 (f:=Unit'.enc) hx;have hi':=Zh hi;have hwr:=Zx (n:=i) (by omega)
   obtain ⟨hR,hN⟩:=hK.un.2 i x hx;refine ⟨[(3,stI s),(5,evI e),(6,.bot),(7,.bool true),(8,.ptr 0 0 0 1),(22,I (i+1:Nat))],?_,rfl⟩;cases c:decide ((i:Int) ≥ (s.Units.length:Int)) with
   | true=>
    obtain ⟨n0,n1⟩:=hN (by have:=of_decide_eq_true c;omega)
    have m0:(x.Ended==-1)=true:=beq_iff_eq.2 n0;have m1:(x.From==e.Day)=true:=beq_iff_eq.2 n1;simp only [go_sem,Nat.reduceBEq,reduceAdd,reduceSub,reduceMul,reduceLT,reduceLeDiff,reduceIte,c7L4b,hg,hi',hwr,c,Unit'.enc,NL.enc,m0,m1]
   | false=>
    obtain ⟨y,hy⟩:∃ y,s.Units[i]? = some y:=⟨_,List.getElem?_eq_getElem (by have:=of_decide_eq_false c;omega)⟩
    have hg2:=Z6 (f:=Unit'.enc) hy;have hR':=hR y hy;have hlt:((i:Int) < (s.Units.length:Int)):=by have:=of_decide_eq_false c;omega
    have k0:Z3 x.Id y.Id=true:=by rw [hR'.1];exact Zad _
    have k1:(x.From != y.From)=false:=bne_eq_false_iff_eq.2 hR'.2.1;cases c2:y.Ended != -1 with
    | false=>simp only [go_sem,Nat.reduceBEq,reduceAdd,reduceSub,reduceMul,reduceLT,reduceLeDiff,reduceIte,c7L4b,hg,hg2,hi',hwr,c,c2,hlt,if_true,Unit'.enc,NL.enc,k0,k1]
    | true=>
     have hxy:x=y:=hR'.2.2 (by simpa using c2)
     subst hxy;simp only [go_sem,Nat.reduceBEq,reduceAdd,reduceSub,reduceMul,reduceLT,reduceLeDiff,reduceIte,c7L4b,hg,hg2,hi',hwr,c,c2,hlt,if_true,Unit'.enc,NL.enc,k0,k1,Zad,beq_self_eq_true])
  (e:=.exit 8) (fr:=[(3,stI s),(5,evI e),(6,.bot),(7,.bool true),(8,.ptr 0 0 0 1),(22,I t.Units.length)]) (h:=[.row 7 [stA t]]) (by simp only [go_sem,Nat.reduceBEq,reduceAdd,reduceSub,reduceMul,reduceLT,reduceLeDiff,reduceIte,c7L4b,ZG]) (by simp)
 exact L
end Go.AM
namespace Go.AM
open Go
theorem c7_eq:c7=.seq s7p0 (.seq s7p1 (.seq s7p2 (.seq s7p3 (.seq s7p4 (.seq s7p5 (.seq s7p6 (.seq s7p7 (.seq s7p8 (.seq s7p9 (.seq s7p10 (.seq s7p11 .ret))))))))))):=rfl
theorem Zb4 (s:Sta) (hs:StF s) (a:Int) (e:Event) (he:EvS e):StS (ZP s a e):=by
 unfold ZP;cases okB s a e&&(Q1 (wk0 s a e)==0&&Wh (stepW (wk0 s a e)).s.Doors) with
 | true=>exact FN s hs a e he
 | false=>exact ⟨Nat.zero_le _,Nat.zero_le _,Nat.zero_le _,Nat.zero_le _,Nat.zero_le _,Nat.zero_le _,Nat.zero_le _⟩
theorem Zak {n m:Nat} (h:n≤m):decide ((m:Int) < (n:Int))=false:=decide_eq_false (by omega)
theorem Zb5 (s:Sta) (a:Int) (e:Event):pfn rE 7 [stA s,I a,evA e]=some (.bool true):=by
 have hH:=Z4U;have hF:=Z4G s e;rw [Z5 (f:=7) (c:=c7) rfl rfl,c7_eq];cases c:YQ s&&Xn e with
 | false=>
  rw [c] at hF;simp only [go_sem,Nat.reduceBEq,reduceAdd,reduceSub,reduceMul,reduceLT,reduceLeDiff,reduceIte,s7p0,s7p1,s7p2,hH,hF]
 | true=>
 rw [c] at hF;rw [Bool.and_eq_true] at c;have hs:=Kl s c.1;have he:=JL e c.2;have hA:=JJ s hs a e he;have hz:=Zb4 s hs a e he;cases c1:Qk s a e==0 with
 | false=>
  generalize ZP s a e=t at *;generalize Qk s a e=err at *;have n1:(err != 0)=true:=by simpa using c1
  simp only [go_sem,Nat.reduceBEq,reduceAdd,reduceSub,reduceMul,reduceLT,reduceLeDiff,reduceIte,s7p0,s7p1,s7p2,s7p3,s7p4,hH,hF,hA,n1]
 | true=>
  have e0:Qk s a e=0:=by simpa using c1
  have hK:=ZaT s a e e0;rw [e0] at hA;generalize ZP s a e=t at *;have L0:=ZaZ s t a e hs.e hz.regions hK;have L1:=Zb0 s t a e hs.e hz.streets hK;have L2:=Zb1 s t a e hs.e hz.buildings hK;have L3:=Zb2 s t a e hs.e hz.doors hK;have L4:=Zb3 s t a e hs.e hz.units hK;have d0:=Zak hK.rg.1;have d1:=Zak hK.st.1;have d2:=Zak hK.bu.1;have d3:=Zak hK.dr.1;have d4:=Zak hK.un.1;have n1:((0:Int) != 0)=false:=rfl;simp only [stI,evI] at L0 L1 L2 L3 L4;simp only [go_sem,Nat.reduceBEq,reduceAdd,reduceSub,reduceMul,reduceLT,reduceLeDiff,reduceIte,s7p0,s7p1,s7p2,s7p3,s7p4,s7p5,s7p6,s7p7,s7p8,s7p9,s7p10,s7p11,c7L0,c7L1,c7L2,c7L3,c7L4,hH,hF,hA,n1,L0,L1,L2,L3,L4,d0,d1,d2,d3,d4]
end Go.AM
