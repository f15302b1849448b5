/- What the functions of the program compute, part 3. No condition. -/
import Derived.Test.YtnfppojnmdohnaaGreatDoorP2
set_option linter.unusedVariables false
set_option linter.unusedSimpArgs false
open Nat (reduceAdd reduceSub reduceMul reduceLT reduceLeDiff)
namespace Go.AM
open Go
theorem Z4G (s:Sta) (e:Event):pfn rE 33 [stA s,evA e]=some (.bool (YQ s&&Xn e)):=by
 have h1:=Z4F s;have h2:=Z4z e;rw [Z5 (f:=33) rfl rfl];cases c:YQ s with
 | false=>rw [c] at h1;simp only [go_sem,Nat.reduceBEq,reduceAdd,reduceSub,reduceMul,reduceLT,reduceLeDiff,reduceIte,c33,h1]
 | true=>rw [c] at h1;simp only [go_sem,Nat.reduceBEq,reduceAdd,reduceSub,reduceMul,reduceLT,reduceLeDiff,reduceIte,c33,h1,h2]
theorem Z4H (s:Sta) (id:Str) (hl:s.Regions.length≤1000):∃ fr',Zg rE [1,2,5] c40L0b [(1,.str id),(2,stI s),(5,.int .i64 0)] []=some (if s.Regions.all (fun x=>!Z3 x.Id id)=true then .exit 0 else .ret,fr',[])∧(s.Regions.all (fun x=>!Z3 x.Id id)=true→get fr' 1=.str id∧get fr' 2=stI s∧get fr' 4=.bot)∧(s.Regions.all (fun x=>!Z3 x.Id id)=false→get fr' 4=.bool true):=by
 have L:=QT (E:=rE) (live:=[1,2,5]) (b:=c40L0b) (h:=[]) s.Regions (fun _ x=>!Z3 x.Id id) (fun i=>[(1,.str id),(2,stI s),(5,I i)]) 0 (fun fr=>get fr 1=.str id∧get fr 2=stI s∧get fr 4=.bot) (fun fr=>get fr 4=.bool true) (fun i=>rfl)
  (fun i x hx hP=>by
   have hg:=Z6 (f:=Region.enc) hx;have hi:=Zh (Z7 hx);have hw:=Zx (n:=i) (by have:=Z7 hx;omega)
   have hP':Z3 x.Id id=false:=by simpa using hP
   refine ⟨_,by simp only [go_sem,Nat.reduceBEq,reduceAdd,reduceIte,c40L0b,hg,hi,hw,Region.enc,NL.enc,hP'];rfl,?_⟩
   simp only [go_sem,Nat.reduceBEq,reduceAdd,reduceIte])
  (fun i x hx hP=>by
   have hg:=Z6 (f:=Region.enc) hx;have hi:=Zh (Z7 hx);have hP':Z3 x.Id id=true:=by simpa using hP
   refine ⟨_,by simp only [go_sem,Nat.reduceBEq,reduceAdd,reduceIte,c40L0b,hg,hi,Region.enc,NL.enc,hP'];rfl,?_⟩
   simp only [go_sem,Nat.reduceBEq,reduceAdd,reduceIte])
  (⟨_,by simp only [go_sem,Nat.reduceBEq,reduceAdd,reduceIte,c40L0b,ZG];rfl,by simp only [go_sem,Nat.reduceBEq,reduceAdd,reduceIte],by simp only [go_sem,Nat.reduceBEq,reduceAdd,reduceIte],by simp only [go_sem,Nat.reduceBEq,reduceAdd,reduceIte]⟩)
 rw [QE] at L;exact L
theorem Z4I (s:Sta) (id:Str) (hl:s.Streets.length≤1000):∃ fr',Zg rE [1,2,6] c40L1b [(1,.str id),(2,stI s),(6,.int .i64 0)] []=some (if s.Streets.all (fun x=>!Z3 x.Id id)=true then .exit 2 else .ret,fr',[])∧(s.Streets.all (fun x=>!Z3 x.Id id)=true→get fr' 1=.str id∧get fr' 2=stI s∧get fr' 4=.bot)∧(s.Streets.all (fun x=>!Z3 x.Id id)=false→get fr' 4=.bool true):=by
 have L:=QT (E:=rE) (live:=[1,2,6]) (b:=c40L1b) (h:=[]) s.Streets (fun _ x=>!Z3 x.Id id) (fun i=>[(1,.str id),(2,stI s),(6,I i)]) 2 (fun fr=>get fr 1=.str id∧get fr 2=stI s∧get fr 4=.bot) (fun fr=>get fr 4=.bool true) (fun i=>rfl)
  (fun i x hx hP=>by
   have hg:=Z6 (f:=Street.enc) hx;have hi:=Zh (Z7 hx);have hw:=Zx (n:=i) (by have:=Z7 hx;omega)
   have hP':Z3 x.Id id=false:=by simpa using hP
   refine ⟨_,by simp only [go_sem,Nat.reduceBEq,reduceAdd,reduceIte,c40L1b,hg,hi,hw,Street.enc,NL.enc,hP'];rfl,?_⟩
   simp only [go_sem,Nat.reduceBEq,reduceAdd,reduceIte])
  (fun i x hx hP=>by
   have hg:=Z6 (f:=Street.enc) hx;have hi:=Zh (Z7 hx);have hP':Z3 x.Id id=true:=by simpa using hP
   refine ⟨_,by simp only [go_sem,Nat.reduceBEq,reduceAdd,reduceIte,c40L1b,hg,hi,Street.enc,NL.enc,hP'];rfl,?_⟩
   simp only [go_sem,Nat.reduceBEq,reduceAdd,reduceIte])
  (⟨_,by simp only [go_sem,Nat.reduceBEq,reduceAdd,reduceIte,c40L1b,ZG];rfl,by simp only [go_sem,Nat.reduceBEq,reduceAdd,reduceIte],by simp only [go_sem,Nat.reduceBEq,reduceAdd,reduceIte],by simp only [go_sem,Nat.reduceBEq,reduceAdd,reduceIte]⟩)
 rw [QE] at L;exact L
theorem Z4J (s:Sta) (id:Str) (hl:s.Buildings.length≤1000):∃ fr',Zg rE [1,2,7] c40L2b [(1,.str id),(2,stI s),(7,.int .i64 0)] []=some (if s.Buildings.all (fun x=>!Z3 x.Id id)=true then .exit 4 else .ret,fr',[])∧(s.Buildings.all (fun x=>!Z3 x.Id id)=true→get fr' 1=.str id∧get fr' 2=stI s∧get fr' 4=.bot)∧(s.Buildings.all (fun x=>!Z3 x.Id id)=false→get fr' 4=.bool true):=by
 have L:=QT (E:=rE) (live:=[1,2,7]) (b:=c40L2b) (h:=[]) s.Buildings (fun _ x=>!Z3 x.Id id) (fun i=>[(1,.str id),(2,stI s),(7,I i)]) 4 (fun fr=>get fr 1=.str id∧get fr 2=stI s∧get fr 4=.bot) (fun fr=>get fr 4=.bool true) (fun i=>rfl)
  (fun i x hx hP=>by
   have hg:=Z6 (f:=Building.enc) hx;have hi:=Zh (Z7 hx);have hw:=Zx (n:=i) (by have:=Z7 hx;omega)
   have hP':Z3 x.Id id=false:=by simpa using hP
   refine ⟨_,by simp only [go_sem,Nat.reduceBEq,reduceAdd,reduceIte,c40L2b,hg,hi,hw,Building.enc,NL.enc,hP'];rfl,?_⟩
   simp only [go_sem,Nat.reduceBEq,reduceAdd,reduceIte])
  (fun i x hx hP=>by
   have hg:=Z6 (f:=Building.enc) hx;have hi:=Zh (Z7 hx);have hP':Z3 x.Id id=true:=by simpa using hP
   refine ⟨_,by simp only [go_sem,Nat.reduceBEq,reduceAdd,reduceIte,c40L2b,hg,hi,Building.enc,NL.enc,hP'];rfl,?_⟩
   simp only [go_sem,Nat.reduceBEq,reduceAdd,reduceIte])
  (⟨_,by simp only [go_sem,Nat.reduceBEq,reduceAdd,reduceIte,c40L2b,ZG];rfl,by simp only [go_sem,Nat.reduceBEq,reduceAdd,reduceIte],by simp only [go_sem,Nat.reduceBEq,reduceAdd,reduceIte],by simp only [go_sem,Nat.reduceBEq,reduceAdd,reduceIte]⟩)
 rw [QE] at L;exact L
theorem Z4K (s:Sta) (id:Str) (hl:s.Units.length≤1000):∃ fr',Zg rE [1,2,8] c40L3b [(1,.str id),(2,stI s),(8,.int .i64 0)] []=some (if s.Units.all (fun x=>!Z3 x.Id id)=true then .exit 6 else .ret,fr',[])∧(s.Units.all (fun x=>!Z3 x.Id id)=true→get fr' 1=.str id∧get fr' 2=stI s∧get fr' 4=.bot)∧(s.Units.all (fun x=>!Z3 x.Id id)=false→get fr' 4=.bool true):=by
 have L:=QT (E:=rE) (live:=[1,2,8]) (b:=c40L3b) (h:=[]) s.Units (fun _ x=>!Z3 x.Id id) (fun i=>[(1,.str id),(2,stI s),(8,I i)]) 6 (fun fr=>get fr 1=.str id∧get fr 2=stI s∧get fr 4=.bot) (fun fr=>get fr 4=.bool true) (fun i=>rfl)
  (fun i x hx hP=>by
   have hg:=Z6 (f:=Unit'.enc) hx;have hi:=Zh (Z7 hx);have hw:=Zx (n:=i) (by have:=Z7 hx;omega)
   have hP':Z3 x.Id id=false:=by simpa using hP
   refine ⟨_,by simp only [go_sem,Nat.reduceBEq,reduceAdd,reduceIte,c40L3b,hg,hi,hw,Unit'.enc,NL.enc,hP'];rfl,?_⟩
   simp only [go_sem,Nat.reduceBEq,reduceAdd,reduceIte])
  (fun i x hx hP=>by
   have hg:=Z6 (f:=Unit'.enc) hx;have hi:=Zh (Z7 hx);have hP':Z3 x.Id id=true:=by simpa using hP
   refine ⟨_,by simp only [go_sem,Nat.reduceBEq,reduceAdd,reduceIte,c40L3b,hg,hi,Unit'.enc,NL.enc,hP'];rfl,?_⟩
   simp only [go_sem,Nat.reduceBEq,reduceAdd,reduceIte])
  (⟨_,by simp only [go_sem,Nat.reduceBEq,reduceAdd,reduceIte,c40L3b,ZG];rfl,by simp only [go_sem,Nat.reduceBEq,reduceAdd,reduceIte],by simp only [go_sem,Nat.reduceBEq,reduceAdd,reduceIte],by simp only [go_sem,Nat.reduceBEq,reduceAdd,reduceIte]⟩)
 rw [QE] at L;exact L
def Zab {α:Type} (f:α→Str) (l:List α) (id:Str):Bool:=l.all (fun x=>!Z3 (f x) id)
def XR (s:Sta) (id:Str):Bool:=!(s.Regions.all (fun x=>!Z3 x.Id id)&&(s.Streets.all (fun x=>!Z3 x.Id id)&&(s.Buildings.all (fun x=>!Z3 x.Id id)&&(s.Units.all (fun x=>!Z3 x.Id id)&&!decide (Zn s id ≥ 0)))))
theorem HJ (s:Sta) (hs:StS s) (id:Str):pfn rE 40 [stA s,.str id]=some (.bool (XR s id)):=by
 have hf:=find_ok s hs id;rw [Z5 (f:=40) rfl rfl];unfold XR;obtain ⟨f0,l0,a0,b0⟩:=Z4H s id hs.regions;simp only [stI] at l0 a0;cases e0:s.Regions.all (fun x=>!Z3 x.Id id) with
 | false=>
  rw [e0] at l0;simp only [go_sem,Nat.reduceBEq,reduceAdd,reduceIte,c40,c40L0,l0,b0 e0,Bool.false_eq_true]
 | true=>
 rw [e0] at l0;obtain ⟨p0,q0,r0⟩:=a0 e0;obtain ⟨f1,l1,a1,b1⟩:=Z4I s id hs.streets;simp only [stI] at l1 a1;cases e1:s.Streets.all (fun x=>!Z3 x.Id id) with
 | false=>
  rw [e1] at l1;simp only [go_sem,Nat.reduceBEq,reduceAdd,reduceIte,c40,c40L0,l0,p0,q0,r0,c40L1,l1,b1 e1,Bool.false_eq_true]
 | true=>
 rw [e1] at l1;obtain ⟨p1,q1,r1⟩:=a1 e1;obtain ⟨f2,l2,a2,b2⟩:=Z4J s id hs.buildings;simp only [stI] at l2 a2;cases e2:s.Buildings.all (fun x=>!Z3 x.Id id) with
 | false=>
  rw [e2] at l2;simp only [go_sem,Nat.reduceBEq,reduceAdd,reduceIte,c40,c40L0,l0,p0,q0,r0,c40L1,l1,p1,q1,r1,c40L2,l2,b2 e2,Bool.false_eq_true]
 | true=>
 rw [e2] at l2;obtain ⟨p2,q2,r2⟩:=a2 e2;obtain ⟨f3,l3,a3,b3⟩:=Z4K s id hs.units;simp only [stI] at l3 a3;cases e3:s.Units.all (fun x=>!Z3 x.Id id) with
 | false=>
  rw [e3] at l3;simp only [go_sem,Nat.reduceBEq,reduceAdd,reduceIte,c40,c40L0,l0,p0,q0,r0,c40L1,l1,p1,q1,r1,c40L2,l2,p2,q2,r2,c40L3,l3,b3 e3,Bool.false_eq_true]
 | true=>
 rw [e3] at l3;obtain ⟨p3,q3,r3⟩:=a3 e3;cases c:decide (Zn s id ≥ 0) with
 | true=>simp only [go_sem,Nat.reduceBEq,reduceAdd,reduceSub,reduceMul,reduceLT,reduceLeDiff,reduceIte,c40,c40L0,l0,p0,q0,r0,c40L1,l1,p1,q1,r1,c40L2,l2,p2,q2,r2,c40L3,l3,p3,q3,r3,hf,c,if_true]
 | false=>simp only [go_sem,Nat.reduceBEq,reduceAdd,reduceSub,reduceMul,reduceLT,reduceLeDiff,reduceIte,c40,c40L0,l0,p0,q0,r0,c40L1,l1,p1,q1,r1,c40L2,l2,p2,q2,r2,c40L3,l3,p3,q3,r3,hf,c,if_true]
def HK (a b:List Str):Bool:=a.length==b.length&&Zu (fun i x=>match b[i]? with | some y=>Z3 x y | none=>false) 0 a
theorem Z4L (ea eb:Bool) (a b:List Str) (ha:a.length≤1000):pfn rE 43 [.isl false ea 1 (a.map encS),.isl false eb 1 (b.map encS)]=some (.bool (HK a b)):=by
 rw [Z5 (f:=43) rfl rfl];unfold HK;have hne:((a.length:Int) != (b.length:Int)) = !(a.length==b.length):=by
  cases h:a.length==b.length with
  | true=>have:a.length=b.length:=by simpa using h
          rw [this];simp
  | false=>have:a.length≠b.length:=by simpa using h
           simp;omega
 cases c:a.length==b.length with
 | false=>
  rw [c] at hne;simp only [go_sem,Nat.reduceBEq,reduceAdd,reduceIte,c43,hne]
 | true=>
 rw [c] at hne;have hlen:a.length=b.length:=by simpa using c
 have L:=QT (E:=rE) (live:=[0,1,5]) (b:=c43L0b) (h:=[]) a (fun i x=>match b[i]? with | some y=>Z3 x y | none=>false) (fun i=>[(0,.isl false ea 1 (a.map encS)),(1,.isl false eb 1 (b.map encS)),(5,I i)]) 0 (fun fr=>get fr 4=.bot) (fun fr=>get fr 4=.bool false) (fun i=>rfl)
  (fun i x hx hP=>by
   have hg:=Z6 (f:=encS) hx;have hi:=Zh (Z7 hx);have hw:=Zx (n:=i) (by have:=Z7 hx;omega)
   obtain ⟨y,hy⟩:∃ y,b[i]? = some y:=⟨_,List.getElem?_eq_getElem (by rw [←hlen];exact Z7 hx)⟩
   have hgy:=Z6 (f:=encS) hy;rw [hy] at hP;dsimp only at hP;refine ⟨_,by simp only [go_sem,Nat.reduceBEq,reduceAdd,reduceIte,c43L0b,hg,hgy,hi,hw,encS,hP];rfl,?_⟩
   simp only [go_sem,Nat.reduceBEq,reduceAdd,reduceIte])
  (fun i x hx hP=>by
   have hg:=Z6 (f:=encS) hx;have hi:=Zh (Z7 hx);obtain ⟨y,hy⟩:∃ y,b[i]? = some y:=⟨_,List.getElem?_eq_getElem (by rw [←hlen];exact Z7 hx)⟩
   have hgy:=Z6 (f:=encS) hy;rw [hy] at hP;dsimp only at hP;refine ⟨_,by simp only [go_sem,Nat.reduceBEq,reduceAdd,reduceIte,c43L0b,hg,hgy,hi,encS,hP];rfl,?_⟩
   simp only [go_sem,Nat.reduceBEq,reduceAdd,reduceIte])
  (⟨_,by simp only [go_sem,Nat.reduceBEq,reduceAdd,reduceIte,c43L0b,ZG];rfl,by simp only [go_sem,Nat.reduceBEq,reduceAdd,reduceIte]⟩)
 obtain ⟨fr',h1,h2,h3⟩:=L;have h1':Zg rE [0,1,5] c43L0b [(0,.isl false ea 1 (a.map encS)),(1,.isl false eb 1 (b.map encS)),(5,.int .i64 0)] []=_:=h1;cases e:Zu (fun i x=>match b[i]? with | some y=>Z3 x y | none=>false) 0 a with
 | true=>
  rw [e] at h1';simp only [go_sem,Nat.reduceBEq,reduceAdd,reduceIte,c43,c43L0,hne,h1',h2 e,if_true]
 | false=>
  rw [e] at h1';simp only [go_sem,Nat.reduceBEq,reduceAdd,reduceIte,c43,c43L0,hne,h1',h3 e,Bool.false_eq_true]
end Go.AM
namespace Go.AM
open Go
def FU (a b:Door):Bool:=((((!Z3 a.Id b.Id||!Z3 a.Building b.Building)||!Z3 a.Street b.Street)||a.Owner != b.Owner)||!QL a.Number b.Number)||!QK a.Point b.Point
def HL (a b:Door):Bool:=!FU a b&&(((((a.From==b.From&&a.Ended==b.Ended)&&HK a.After.l b.After.l)&&a.Why==b.Why)&&a.Office==b.Office)&&Z3 a.Veil b.Veil)
theorem Z4M (a b:Door) (ha:a.After.l.length≤1000):pfn rE 39 [a.enc,b.enc]=some (.bool (HL a b)):=by
 have hT:=Z4L a.After.ex b.After.ex a.After.l b.After.l ha;have hn:(a.Number.N==b.Number.N&&(Z3 a.Number.Letter b.Number.Letter&&(a.Number.Num==b.Number.Num&&a.Number.Den==b.Number.Den)))=QL a.Number b.Number:=rfl;have hp:(a.Point.X==b.Point.X&&a.Point.Y==b.Point.Y)=QK a.Point b.Point:=rfl;rw [Z5 (f:=39) rfl rfl];unfold HL FU;cases c0:Z3 a.Id b.Id with
 | false=>simp only [go_sem,Nat.reduceBEq,reduceAdd,reduceIte,c39,Door.enc,NL.enc,c0,Bool.true_or]
 | true=>
 cases c1:Z3 a.Building b.Building with
 | false=>simp only [go_sem,Nat.reduceBEq,reduceAdd,reduceIte,c39,Door.enc,NL.enc,c0,c1,Bool.true_or,Bool.false_or]
 | true=>
 cases c2:Z3 a.Street b.Street with
 | false=>simp only [go_sem,Nat.reduceBEq,reduceAdd,reduceIte,c39,Door.enc,NL.enc,c0,c1,c2,Bool.true_or,Bool.false_or]
 | true=>
 cases c3:a.Owner != b.Owner with
 | true=>simp only [go_sem,Nat.reduceBEq,reduceAdd,reduceIte,c39,Door.enc,NL.enc,c0,c1,c2,c3,Bool.true_or,Bool.false_or]
 | false=>
 cases c4:QL a.Number b.Number with
 | false=>simp only [go_sem,Nat.reduceBEq,reduceAdd,reduceSub,reduceMul,reduceLT,reduceLeDiff,reduceIte,c39,Door.enc,NL.enc,c0,c1,c2,c3,hn,c4,Bool.true_or,Bool.false_or]
 | true=>
 cases c5:QK a.Point b.Point with
 | false=>simp only [go_sem,Nat.reduceBEq,reduceAdd,reduceSub,reduceMul,reduceLT,reduceLeDiff,reduceIte,c39,Door.enc,NL.enc,c0,c1,c2,c3,hn,c4,hp,c5,Bool.true_or,Bool.false_or]
 | true=>
 cases c6:a.From==b.From with
 | false=>simp only [go_sem,Nat.reduceBEq,reduceAdd,reduceSub,reduceMul,reduceLT,reduceLeDiff,reduceIte,c39,Door.enc,NL.enc,c0,c1,c2,c3,hn,c4,hp,c5,c6,Bool.true_or,Bool.false_or]
 | true=>
 cases c7:a.Ended==b.Ended with
 | false=>simp only [go_sem,Nat.reduceBEq,reduceAdd,reduceSub,reduceMul,reduceLT,reduceLeDiff,reduceIte,c39,Door.enc,NL.enc,c0,c1,c2,c3,hn,c4,hp,c5,c6,c7,Bool.true_or,Bool.false_or]
 | true=>
 cases c8:HK a.After.l b.After.l with
 | false=>rw [c8] at hT;simp only [go_sem,Nat.reduceBEq,reduceAdd,reduceSub,reduceMul,reduceLT,reduceLeDiff,reduceIte,c39,Door.enc,NL.enc,c0,c1,c2,c3,hn,c4,hp,c5,c6,c7,hT,Bool.true_or,Bool.false_or]
 | true=>
 rw [c8] at hT;cases c9:a.Why==b.Why with
 | false=>simp only [go_sem,Nat.reduceBEq,reduceAdd,reduceSub,reduceMul,reduceLT,reduceLeDiff,reduceIte,c39,Door.enc,NL.enc,c0,c1,c2,c3,hn,c4,hp,c5,c6,c7,hT,c9,Bool.true_or,Bool.false_or]
 | true=>
 cases c10:a.Office==b.Office with
 | false=>simp only [go_sem,Nat.reduceBEq,reduceAdd,reduceSub,reduceMul,reduceLT,reduceLeDiff,reduceIte,c39,Door.enc,NL.enc,c0,c1,c2,c3,hn,c4,hp,c5,c6,c7,hT,c9,c10,Bool.true_or,Bool.false_or]
 | true=>simp only [go_sem,Nat.reduceBEq,reduceAdd,reduceSub,reduceMul,reduceLT,reduceLeDiff,reduceIte,c39,Door.enc,NL.enc,c0,c1,c2,c3,hn,c4,hp,c5,c6,c7,hT,c9,c10,Bool.true_or,Bool.false_or]
theorem HM (n:Int):pfn rE 93 [I n]=some (.agg [I n,.str emp,I 0,I 0]):=by
 rw [Z5 (f:=93) rfl rfl];simp only [go_sem,Nat.reduceBEq,reduceAdd,reduceSub,reduceMul,reduceLT,reduceLeDiff,reduceIte,c93]
def zEv:Event:=⟨0,0,0,0,0,emp,emp,emp,⟨false,[]⟩,⟨false,[]⟩,⟨0,emp,0,0⟩,⟨0,0⟩,⟨false,[]⟩,⟨false,[]⟩⟩
def nOf (n:Int):HN:=⟨n,emp,0,0⟩
def ev1:Event:={ zEv with Kind:=2,Id:=B [115,49],Path:=⟨false,[⟨0,0⟩,⟨9,0⟩]⟩ }
def ev2:Event:={ zEv with Kind:=5,Id:=B [98,49],Path:=⟨false,[⟨1,1⟩,⟨4,1⟩,⟨1,4⟩]⟩ }
def ev3:Event:={ zEv with Kind:=6,Id:=B [101,49],Other:=B [98,49],Text:=B [115,49],Number:=nOf 1,Point:=⟨2,1⟩,Day:=3 }
def ev4:Event:={ zEv with Kind:=7,Id:=B [117,49],Other:=B [101,49],Text:=B [50,76] }
def smp:Nat→Sta
 | 0=>Yh
 | 1=>ZP Yh 1 ev1
 | 2=>ZP (ZP Yh 1 ev1) 1 ev2
 | 3=>ZP (ZP (ZP Yh 1 ev1) 1 ev2) 1 ev3
 | _=>ZP (ZP (ZP (ZP Yh 1 ev1) 1 ev2) 1 ev3) 1 ev4
def Vw:List Event:=[ev1,ev2,ev3,ev4]
theorem Z4N (i:Nat) (e:Event) (h:Vw[i]? = some e):pfn rE 34 [stA (smp i),I 1,evA e]=some (.tup [stA (smp (i+1)),I 0]):=by
 have f0:YQ (smp 0)=true:=by decide +kernel
 have f1:YQ (smp 1)=true:=by decide +kernel
 have f2:YQ (smp 2)=true:=by decide +kernel
 have f3:YQ (smp 3)=true:=by decide +kernel
 have g0:Xn ev1=true:=by decide +kernel
 have g1:Xn ev2=true:=by decide +kernel
 have g2:Xn ev3=true:=by decide +kernel
 have g3:Xn ev4=true:=by decide +kernel
 have e0:Qk (smp 0) 1 ev1=0:=by decide +kernel
 have e1:Qk (smp 1) 1 ev2=0:=by decide +kernel
 have e2:Qk (smp 2) 1 ev3=0:=by decide +kernel
 have e3:Qk (smp 3) 1 ev4=0:=by decide +kernel
 have hi:i < 4:=Z7 h;rcases (by omega:i=0∨i=1∨i=2∨i=3) with rfl | rfl | rfl | rfl
 ·cases h;rw [JJ _ (Kl _ f0) 1 _ (JL _ g0),e0];rfl
 ·cases h;rw [JJ _ (Kl _ f1) 1 _ (JL _ g1),e1];rfl
 ·cases h;rw [JJ _ (Kl _ f2) 1 _ (JL _ g2),e2];rfl
 ·cases h;rw [JJ _ (Kl _ f3) 1 _ (JL _ g3),e3];rfl
theorem Z4O:∃ fr',Zg rE [0,2,3,4] c92L0b [(0,.ptr 0 0 0 1),(2,.ptr 1 0 0 1),(3,.isl false false 18 (Vw.map evA)),(4,.int .i64 0)] [.row 7 [stA Yh],.row 7 [stA Yh]] =
 some (.exit 0,fr',[.row 7 [stA Yh],.row 7 [stA (smp 4)]])∧get fr' 0=.ptr 0 0 0 1∧get fr' 1=.bot∧get fr' 2=.ptr 1 0 0 1:=by
 have L:=Y8 (E:=rE) (live:=[0,2,3,4]) (b:=c92L0b) 4 (fun i=>[(0,.ptr 0 0 0 1),(2,.ptr 1 0 0 1),(3,.isl false false 18 (Vw.map evA)),(4,I i)])
  (fun i=>[.row 7 [stA Yh],.row 7 [stA (smp i)]]) (fun i=>rfl)
  (fun i hi=>by
   obtain ⟨x,hx⟩:∃ x,Vw[i]? = some x:=⟨_,List.getElem?_eq_getElem hi⟩;have hg:=Z6 (f:=evA) hx;have hlen:Vw.length=4:=rfl;have hi':=Zh hi;have hwr:=Zx (n:=i) (by omega)
   have hA:=Z4N i x hx;have n0:((0:Int) != 0)=false:=rfl;generalize smp i=S at hA ⊢;generalize smp (i+1)=S' at hA ⊢;refine ⟨_,by simp only [go_sem,Nat.reduceBEq,reduceAdd,reduceSub,reduceMul,reduceLT,reduceLeDiff,reduceIte,c92L0b,hg,hlen,hi',hwr,hA,n0];rfl,?_⟩
   simp only [go_sem,Nat.reduceBEq,reduceAdd,reduceSub,reduceMul,reduceLT,reduceLeDiff,reduceIte])
  (e:=.exit 0) (fr:=[(0,.ptr 0 0 0 1),(1,.bot),(2,.ptr 1 0 0 1),(3,.isl false false 18 (Vw.map evA)),(4,I (4:Nat))]) (h:=[.row 7 [stA Yh],.row 7 [stA (smp 4)]])
  (by
   have hlen:Vw.length=4:=rfl;have hd:=ZG 4;simp only [go_sem,Nat.reduceBEq,reduceAdd,reduceSub,reduceMul,reduceLT,reduceLeDiff,reduceIte,c92L0b,hlen,hd]) (by simp)
 exact ⟨_,L,by simp only [go_sem,Nat.reduceBEq,reduceAdd,reduceSub,reduceMul,reduceLT,reduceLeDiff,reduceIte],by simp only [go_sem,Nat.reduceBEq,reduceAdd,reduceSub,reduceMul,reduceLT,reduceLeDiff,reduceIte],by simp only [go_sem,Nat.reduceBEq,reduceAdd,reduceSub,reduceMul,reduceLT,reduceLeDiff,reduceIte]⟩
theorem Z4P:pfn rE 92 []=some (.tup [stA (smp 4),.bool true]):=by
 obtain ⟨fr',hL,q0,q1,q2⟩:=Z4O;have h93:=HM 1;generalize smp 4=S at hL ⊢;have hz:stA Yh=.agg HE:=rfl;rw [hz] at hL;simp only [Vw,ev1,ev2,ev3,ev4,zEv,nOf,List.map_cons,List.map_nil,evA,Pt.enc] at hL;rw [Z5 (f:=92) rfl rfl];simp only [go_sem,Nat.reduceBEq,reduceAdd,reduceSub,reduceMul,reduceLT,reduceLeDiff,reduceIte,c92,c92L0,h93,hL,q0,q1,q2]
end Go.AM
namespace Go.AM
open Go
def hv1:Event:={ zEv with Kind:=9,Id:=B [101,49],Day:=7,Lst:=⟨false,[⟨B [101,50],nOf 1,⟨0,0⟩⟩,⟨B [101,51],nOf 3,⟨0,0⟩⟩]⟩ }
def hv2:Event:={ zEv with Kind:=6,Id:=B [101,49],Other:=B [98,49],Text:=B [115,49],Number:=nOf 9 }
def hv3:Event:={ zEv with Kind:=6,Id:=B [101,52],Other:=B [98,49],Text:=B [115,49],Number:=nOf 3 }
def hv4:Event:={ zEv with Kind:=8,Id:=B [115,49],Lst:=⟨false,[⟨B [101,50],nOf 3,⟨0,0⟩⟩,⟨B [101,51],nOf 1,⟨0,0⟩⟩]⟩ }
def hv5:Event:={ zEv with Kind:=12,Id:=B [115,49] }
def hv6:Event:={ zEv with Kind:=11,Id:=B [98,49],Day:=9 }
def hv7:Event:={ zEv with Kind:=13,A:=1,B:=2 }
def hv8:Event:={ zEv with Kind:=13,A:=2,B:=1 }
def hv9:Event:={ zEv with Kind:=13,A:=3,B:=2 }
def hS1:Sta:=ZP (smp 4) 1 hv1
def hS4:Sta:=ZP hS1 1 hv4
def hS6:Sta:=ZP hS4 1 hv6
def hS7:Sta:=ZP hS6 0 hv7
def tgt:Door:=⟨B [101,49],B [98,49],B [115,49],1,nOf 1,⟨2,1⟩,3,7,⟨false,[B [101,50],B [101,51]]⟩,9,0,emp⟩
theorem ap (s:Sta) (a:Int) (e:Event) (c:Int) (h:(YQ s&&(Xn e&&Qk s a e==c))=true):pfn rE 34 [stA s,I a,evA e]=some (.tup [stA (ZP s a e),I c]):=by
 simp only [Bool.and_eq_true] at h;obtain ⟨h1,h2,h3⟩:=h;rw [JJ s (Kl s h1) a e (JL e h2)];have:Qk s a e=c:=by simpa using h3
 rw [this]
theorem ha1:pfn rE 34 [stA (smp 4),I 1,evA hv1]=some (.tup [stA hS1,I 0]):=ap _ _ _ _ (by decide +kernel)
theorem ha2:pfn rE 34 [stA hS1,I 1,evA hv2]=some (.tup [stA (ZP hS1 1 hv2),I 8]):=ap _ _ _ _ (by decide +kernel)
theorem ha3:pfn rE 34 [stA hS1,I 1,evA hv3]=some (.tup [stA (ZP hS1 1 hv3),I 8]):=ap _ _ _ _ (by decide +kernel)
theorem ha4:pfn rE 34 [stA hS1,I 1,evA hv4]=some (.tup [stA hS4,I 0]):=ap _ _ _ _ (by decide +kernel)
theorem ha5:pfn rE 34 [stA hS4,I 1,evA hv5]=some (.tup [stA (ZP hS4 1 hv5),I 11]):=ap _ _ _ _ (by decide +kernel)
theorem ha6:pfn rE 34 [stA hS4,I 1,evA hv6]=some (.tup [stA hS6,I 0]):=ap _ _ _ _ (by decide +kernel)
theorem ha7:pfn rE 34 [stA hS6,I 0,evA hv7]=some (.tup [stA hS7,I 0]):=ap _ _ _ _ (by decide +kernel)
theorem ha8:pfn rE 34 [stA hS7,I 0,evA hv8]=some (.tup [stA (ZP hS7 0 hv8),I 12]):=ap _ _ _ _ (by decide +kernel)
theorem ha9:pfn rE 34 [stA hS7,I 0,evA hv9]=some (.tup [stA (ZP hS7 0 hv9),I 11]):=ap _ _ _ _ (by decide +kernel)
def M4 (A C:Sta):Bool:=YQ A&&(A.Doors.length==3&&(A.Units.length==1&&(C.Doors.length==3&&(C.Units.length==1&&(Zn A (B [101,51])==2&&Zn A (B [98,49])==-1)))))
def M5 (A C:Sta):Bool:=match A.Doors[0]?,A.Units[0]?,C.Doors[1]?,C.Doors[2]?,C.Units[0]? with
 | some d0,some u0,some d1,some d2,some u1=>d0.After.l.length==2&&(HL d0 tgt&&(Z3 u0.Door (B [101,50])&&(d1.Ended==9&&(d2.Ended==9&&(d1.Why==11&&u1.Ended==9)))))
 | _,_,_,_,_=>false
theorem Z4Q:M4 hS1 hS6=true:=by decide +kernel
theorem Z4R:M5 hS1 hS6=true:=by decide +kernel
theorem Z4S {A C:Sta} (h:M5 A C=true):∃ d0 u0 d1 d2 u1,A.Doors[0]? = some d0∧A.Units[0]? = some u0∧C.Doors[1]? = some d1∧C.Doors[2]? = some d2∧C.Units[0]? = some u1∧
 d0.After.l.length=2∧HL d0 tgt=true∧Z3 u0.Door (B [101,50])=true∧(d1.Ended==9)=true∧(d2.Ended==9)=true∧(d1.Why==11)=true∧(u1.Ended==9)=true:=by
 unfold M5 at h;split at h
 ·rename_i d0 u0 d1 d2 u1 e0 e1 e2 e3 e4;simp only [Bool.and_eq_true] at h;obtain ⟨m0,m1,m2,m3,m4,m5,m6⟩:=h;exact ⟨d0,u0,d1,d2,u1,e0,e1,e2,e3,e4,by simpa using m0,m1,m2,m3,m4,m5,m6⟩
 ·cases h
theorem Z4T {A C:Sta} (h:M4 A C=true):StS A∧A.Doors.length=3∧A.Units.length=1∧C.Doors.length=3∧C.Units.length=1∧Zn A (B [101,51])=2∧Zn A (B [98,49])=-1:=by
 simp only [M4,Bool.and_eq_true] at h;obtain ⟨k0,k1,k2,k3,k4,k5,k6⟩:=h;exact ⟨(Kl A k0).e.sizes,by simpa using k1,by simpa using k2,by simpa using k3,by simpa using k4,by simpa using k5,by simpa using k6⟩
end Go.AM
namespace Go.AM
open Go
theorem ixM {α:Type} {f:α→AV} {l:List α} {i:Nat} {x:α} (h:l[i]? = some x):ixG (l.map f) (i:Int)=some (f x):=by rw [LP];exact Z6 h
theorem Z4U:pfn rE 32 []=some (.bool true):=by
 have hc1:=Z4Q;have hc2:=Z4R;have hs:=Z4P;have o1:=HM 1;have o3:=HM 3;have o9:=HM 9;have a1:=ha1;have a2:=ha2;have a3:=ha3;have a4:=ha4;have a5:=ha5;have a6:=ha6;have a7:=ha7;have a8:=ha8;have a9:=ha9;generalize ZP hS1 1 hv2=T2 at a2;generalize ZP hS1 1 hv3=T3 at a3;generalize ZP hS4 1 hv5=T5 at a5;generalize ZP hS7 0 hv8=T8 at a8;generalize ZP hS7 0 hv9=T9 at a9;generalize smp 4=T0 at hs a1;generalize hS1=T1 at hc1 hc2 a1 a2 a3 a4;generalize hS4=T4 at a4 a5 a6;generalize hS6=T6 at hc1 hc2 a6 a7;generalize hS7=T7 at a7 a8 a9;obtain ⟨hst,j1,j2,j3,j4,j5,j6⟩:=Z4T hc1;obtain ⟨d0,u0,d1,d2,u1,g0,g1,g2,g3,g4,m0,m1,m2,m3,m4,m5,m6⟩:=Z4S hc2;have hf1:=find_ok T1 hst (B [101,51]);have hf2:=find_ok T1 hst (B [98,49]);rw [j5] at hf1;rw [j6] at hf2;have hd0:=Z4M d0 tgt (by omega)
 rw [m1] at hd0;have x0:ixG (T1.Doors.map Door.enc) 0=some d0.enc:=ixM (f:=Door.enc) g0;have x1:ixG (T1.Units.map Unit'.enc) 0=some u0.enc:=ixM (f:=Unit'.enc) g1;have x2:ixG (T6.Doors.map Door.enc) 1=some d1.enc:=ixM (f:=Door.enc) g2;have x3:ixG (T6.Doors.map Door.enc) 2=some d2.enc:=ixM (f:=Door.enc) g3;have x4:ixG (T6.Units.map Unit'.enc) 0=some u1.enc:=ixM (f:=Unit'.enc) g4;simp only [hv1,hv2,hv3,hv4,hv5,hv6,hv7,hv8,hv9,zEv,nOf,evA,stA,Ent.enc,List.map_cons,List.map_nil,tgt,Door.enc,NL.enc,encS] at a1 a2 a3 a4 a5 a6 a7 a8 a9 hs hf1 hf2 x0 x1 x2 x3 x4 hd0;have y0:((0:Int)==0)=true:=rfl;have y8:((8:Int)==8)=true:=rfl;have y11:((11:Int)==11)=true:=rfl;have y12:((12:Int)==12)=true:=rfl;have y2:((2:Int)==2)=true:=rfl;have ym:((-1:Int)==-1)=true:=rfl;have w3:(((3:Nat):Int) != 3)=false:=rfl;have w1:(((1:Nat):Int) != 1)=false:=rfl;rw [Z5 (f:=32) rfl rfl];simp only [go_sem,Nat.reduceBEq,reduceAdd,reduceSub,reduceMul,reduceLT,reduceLeDiff,reduceIte,c32,hs,o1,o3,o9,a1,a2,a3,a4,a5,a6,a7,a8,a9,hf1,hf2,j1,j2,j3,j4,x0,x1,x2,x3,x4,hd0,m2,m3,m4,m5,m6,y0,y8,y11,y12,y2,ym,w3,w1,Unit'.enc]
end Go.AM
namespace Go.AM
open Go
theorem c8_eq:c8=.seq s8p0 (.seq s8p1 (.seq s8p2 (.seq s8p3 (.seq s8p4 (.seq s8p5 (.seq s8p6 (.seq s8p7 (.seq s8p8 .ret)))))))):=rfl
def Km (e:Event):Bool:=e.Kind==2||(e.Kind==5||(e.Kind==6||(e.Kind==7||(e.Kind==10||e.Kind==15))))
def YX (e:Event):List Str:=bif Km e then [e.Id] else bif e.Kind==9 then e.Lst.l.map (·.Id) else []
theorem Z4V (s:Sta) (a:Int) (e:Event) (hl:e.Lst.l.length≤1000):∃ fr',Zg rE [1,3,5,7,8,9] c8L0b [(1,I a),(3,stI s),(5,evI e),(7,.bool true),(8,.sl 0 0 0 0 false),(9,.int .i64 0)] [.row 1 []] =
 some (.exit 1,fr',[.row 1 ((e.Lst.l.map (·.Id)).map encS)])∧get fr' 1=I a∧get fr' 3=stI s∧get fr' 5=evI e∧get fr' 7=.bool true∧get fr' 8=.sl 0 e.Lst.l.length 0 e.Lst.l.length false:=by
 have hbS:∀ n (K:List Str),Zd n (K.map encS)=true:=fun n K=>ZN _ (Zw (fun t=>rfl) K)
 have L:=Y8 (E:=rE) (live:=[1,3,5,7,8,9]) (b:=c8L0b) e.Lst.l.length
  (fun i=>[(1,I a),(3,stI s),(5,evI e),(7,.bool true),(8,.sl 0 i 0 i false),(9,I i)])
  (fun i=>[.row 1 (((e.Lst.l.take i).map (·.Id)).map encS)]) (fun i=>rfl)
  (fun i hi=>by
   obtain ⟨x,hx⟩:∃ x,e.Lst.l[i]? = some x:=⟨_,List.getElem?_eq_getElem hi⟩;have hg:=Z6 (f:=Ent.enc) hx;have hi':=Zh hi;have hwr:=Zx (n:=i) (by omega)
   have ht:=YW (fun x:Ent=>x.Id) hx
   have hn:((e.Lst.l.take i).map (·.Id)).length=i:=by rw [List.length_map,take_len hx]
   have e1:((e.Lst.l.take (i+1)).map (·.Id)).map encS=((e.Lst.l.take i).map (·.Id)).map encS++[.str x.Id]:=by
    rw [ht,List.map_append];rfl
   rw [e1];generalize (e.Lst.l.take i).map (·.Id)=KS at hn ⊢;have ha:=XC (h:=[.row 1 (KS.map encS)]) (fz:=false) (b:=0) (g:=i) (sz:=1) (es:=KS.map encS) (bw:=false) (ex:=false) (ys:=[.str x.Id]) (bytes:=16) (by simp [rowAt,hn]) rfl (by simp [Qq,rowAt,hn];rfl) (by omega) (by omega) (by simp;omega)
   refine ⟨[(1,I a),(3,stI s),(5,evI e),(7,.bool true),(8,.sl 0 (i+1) 0 (i+1) false),(9,I (i+1:Nat))],?_,rfl⟩;simp only [go_sem,Nat.reduceBEq,reduceAdd,reduceSub,reduceMul,reduceLT,reduceLeDiff,reduceIte,c8L0b,hg,hi',hwr,Ent.enc,ha,hn,beq_self_eq_true,hbS])
  (e:=.exit 1) (fr:=[(1,I a),(3,stI s),(5,evI e),(7,.bool true),(8,.sl 0 e.Lst.l.length 0 e.Lst.l.length false),(9,I e.Lst.l.length)]) (h:=[.row 1 (((e.Lst.l.take e.Lst.l.length).map (·.Id)).map encS)])
  (by simp only [go_sem,Nat.reduceBEq,reduceAdd,reduceSub,reduceMul,reduceLT,reduceLeDiff,reduceIte,c8L0b,ZG,hbS]) (by simp)
 rw [List.take_length] at L;exact ⟨_,L,by simp only [go_sem,Nat.reduceBEq,reduceAdd,reduceSub,reduceMul,reduceLT,reduceLeDiff,reduceIte],by simp only [go_sem,Nat.reduceBEq,reduceAdd,reduceSub,reduceMul,reduceLT,reduceLeDiff,reduceIte],by simp only [go_sem,Nat.reduceBEq,reduceAdd,reduceSub,reduceMul,reduceLT,reduceLeDiff,reduceIte],by simp only [go_sem,Nat.reduceBEq,reduceAdd,reduceSub,reduceMul,reduceLT,reduceLeDiff,reduceIte],by simp only [go_sem,Nat.reduceBEq,reduceAdd,reduceSub,reduceMul,reduceLT,reduceLeDiff,reduceIte]⟩
theorem Z4W (s:Sta) (a:Int) (e:Event) (hl:e.Lst.l.length≤1000):Zb rE s8p4 [(8,.sl 0 0 0 0 false),(1,I a),(3,stI s),(5,evI e),(7,.bool true),(17,.bool false)] [.row 1 []] =
 some (.normal,[(1,I a),(3,stI s),(5,evI e),(7,.bool true),(8,.sl 0 (YX e).length 0 (YX e).length false)],[.row 1 ((YX e).map encS)]):=by
 have hbS:∀ n (K:List Str),Zd n (K.map encS)=true:=fun n K=>ZN _ (Zw (fun t=>rfl) K)
 have ha:=XC (h:=[.row 1 []]) (fz:=false) (b:=0) (g:=0) (sz:=1) (es:=[]) (bw:=false) (ex:=false) (ys:=[.str e.Id]) (bytes:=16) rfl rfl rfl (by omega) (by omega) (by simp)
 unfold YX Km;cases c2:e.Kind==2 with
 | true=>simp only [go_sem,Nat.reduceBEq,reduceAdd,reduceSub,reduceMul,reduceLT,reduceLeDiff,reduceIte,s8p4,c2,ha,hbS,Bool.true_or,List.map_cons,List.map_nil,encS,List.length_cons,List.length_nil]
 | false=>
 cases c5:e.Kind==5 with
 | true=>simp only [go_sem,Nat.reduceBEq,reduceAdd,reduceSub,reduceMul,reduceLT,reduceLeDiff,reduceIte,s8p4,c2,c5,ha,hbS,Bool.true_or,Bool.false_or,List.map_cons,List.map_nil,encS,List.length_cons,List.length_nil]
 | false=>
 cases c6:e.Kind==6 with
 | true=>simp only [go_sem,Nat.reduceBEq,reduceAdd,reduceSub,reduceMul,reduceLT,reduceLeDiff,reduceIte,s8p4,c2,c5,c6,ha,hbS,Bool.true_or,Bool.false_or,List.map_cons,List.map_nil,encS,List.length_cons,List.length_nil]
 | false=>
 cases c7:e.Kind==7 with
 | true=>simp only [go_sem,Nat.reduceBEq,reduceAdd,reduceSub,reduceMul,reduceLT,reduceLeDiff,reduceIte,s8p4,c2,c5,c6,c7,ha,hbS,Bool.true_or,Bool.false_or,List.map_cons,List.map_nil,encS,List.length_cons,List.length_nil]
 | false=>
 cases c10:e.Kind==10 with
 | true=>simp only [go_sem,Nat.reduceBEq,reduceAdd,reduceSub,reduceMul,reduceLT,reduceLeDiff,reduceIte,s8p4,c2,c5,c6,c7,c10,ha,hbS,Bool.true_or,Bool.false_or,List.map_cons,List.map_nil,encS,List.length_cons,List.length_nil]
 | false=>
 cases c15:e.Kind==15 with
 | true=>simp only [go_sem,Nat.reduceBEq,reduceAdd,reduceSub,reduceMul,reduceLT,reduceLeDiff,reduceIte,s8p4,c2,c5,c6,c7,c10,c15,ha,hbS,Bool.true_or,Bool.false_or,List.map_cons,List.map_nil,encS,List.length_cons,List.length_nil]
 | false=>
 cases c9:e.Kind==9 with
 | false=>simp only [go_sem,Nat.reduceBEq,reduceAdd,reduceIte,s8p4,c2,c5,c6,c7,c10,c15,c9,ha,hbS,Bool.true_or,Bool.false_or,List.map_cons,List.map_nil,encS,List.length_cons,List.length_nil]
 | true=>
  obtain ⟨fr',h1,q1,q3,q5,q7,q8⟩:=Z4V s a e hl;simp only [go_sem,Nat.reduceBEq,reduceAdd,reduceIte,s8p4,c8L0,c2,c5,c6,c7,c10,c15,c9,h1,q1,q3,q5,q7,q8,hbS,Bool.true_or,Bool.false_or,List.length_map]
def Vx (s s':Sta) (err:Int) (id:Str):Bool:=!(XR s id&&err != 8)&&!(err==0&&!XR s' id)
theorem Z4X (s s':Sta) (hs:StS s) (hs':StS s') (err:Int) (K:List Str) (hK:K.length≤1000):∃ fr',Zg rE [3,7,8,10,11,12] c8L1b [(3,stI s),(7,.bool true),(8,.sl 0 K.length 0 K.length false),(10,.ptr 1 0 0 1),(11,I err),(12,.int .i64 0)] [.row 1 (K.map encS),.row 7 [stA s']] =
 some (if K.all (Vx s s' err)=true then .exit 3 else .ret,fr',[.row 1 (K.map encS),.row 7 [stA s']])∧(K.all (Vx s s' err)=true→get fr' 6=.bot∧get fr' 7=.bool true)∧(K.all (Vx s s' err)=false→True):=by
 have hbS:∀ n (K:List Str),Zd n (K.map encS)=true:=fun n K=>ZN _ (Zw (fun t=>rfl) K)
 have L:=QT (E:=rE) (live:=[3,7,8,10,11,12]) (b:=c8L1b) (h:=[.row 1 (K.map encS),.row 7 [stA s']]) K (fun _ id=>Vx s s' err id)
  (fun i=>[(3,stI s),(7,.bool true),(8,.sl 0 K.length 0 K.length false),(10,.ptr 1 0 0 1),(11,I err),(12,I i)]) 3 (fun fr=>get fr 6=.bot∧get fr 7=.bool true) (fun fr=>True) (fun i=>rfl)
  (fun i x hx hP=>by
   have hg:=Z6 (f:=encS) hx;have hi:=Z7 hx;have hi':=Zh hi;have hwr:=Zx (n:=i) (by omega)
   have hlt:((i:Int) < (K.length:Int)):=by omega
   have hia:iaP 0 K.length 0 1 (i:Int) K.length (some (1,K.map encS))=some (.ptr 0 i 0 K.length):=by
    rw [VT _ _ _ _ _ _ _ ⟨by omega,hlt⟩];simp
   have k1:=HJ s hs x;have k2:=HJ s' hs' x;unfold Vx at hP;cases c1:XR s x with
   | true=>
    rw [c1] at k1 hP;cases c2:err != 8 with
    | true=>rw [c2] at hP;cases hP
    | false=>
    cases c3:err==0 with
    | true=>
     have h8:err=8:=by simpa using c2
     have h0:err=0:=by simpa using c3
     omega
    | false=>
     refine ⟨_,by simp only [go_sem,Nat.reduceBEq,reduceAdd,reduceSub,reduceMul,reduceLT,reduceLeDiff,reduceIte,c8L1b,hg,hi',hwr,hia,encS,k1,c2,c3,beq_self_eq_true,hbS];rfl,?_⟩
     simp only [go_sem,Nat.reduceBEq,reduceAdd,reduceSub,reduceMul,reduceLT,reduceLeDiff,reduceIte]
   | false=>
   rw [c1] at k1 hP;cases c3:err==0 with
   | false=>
    refine ⟨_,by simp only [go_sem,Nat.reduceBEq,reduceAdd,reduceSub,reduceMul,reduceLT,reduceLeDiff,reduceIte,c8L1b,hg,hi',hwr,hia,encS,k1,c3,beq_self_eq_true,hbS];rfl,?_⟩
    simp only [go_sem,Nat.reduceBEq,reduceAdd,reduceSub,reduceMul,reduceLT,reduceLeDiff,reduceIte]
   | true=>
    rw [c3] at hP;cases c4:XR s' x with
    | false=>rw [c4] at hP;cases hP
    | true=>
     rw [c4] at k2;refine ⟨_,by simp only [go_sem,Nat.reduceBEq,reduceAdd,reduceSub,reduceMul,reduceLT,reduceLeDiff,reduceIte,c8L1b,hg,hi',hwr,hia,encS,k1,k2,c3,beq_self_eq_true,hbS];rfl,?_⟩
     simp only [go_sem,Nat.reduceBEq,reduceAdd,reduceSub,reduceMul,reduceLT,reduceLeDiff,reduceIte])
  (fun i x hx hP=>by
   have hg:=Z6 (f:=encS) hx;have hi:=Z7 hx;have hi':=Zh hi;have hlt:((i:Int) < (K.length:Int)):=by omega
   have hia:iaP 0 K.length 0 1 (i:Int) K.length (some (1,K.map encS))=some (.ptr 0 i 0 K.length):=by
    rw [VT _ _ _ _ _ _ _ ⟨by omega,hlt⟩];simp
   have k1:=HJ s hs x;have k2:=HJ s' hs' x;unfold Vx at hP;cases c1:XR s x with
   | true=>
    rw [c1] at k1 hP;cases c2:err != 8 with
    | true=>exact ⟨_,by simp only [go_sem,Nat.reduceBEq,reduceAdd,reduceSub,reduceMul,reduceLT,reduceLeDiff,reduceIte,c8L1b,hg,hi',hia,encS,k1,c2,beq_self_eq_true,hbS];rfl,trivial⟩
    | false=>
    cases c3:err==0 with
    | true=>
     have h8:err=8:=by simpa using c2
     have h0:err=0:=by simpa using c3
     omega
    | false=>rw [c2,c3] at hP;cases hP
   | false=>
   rw [c1] at k1 hP;cases c3:err==0 with
   | false=>rw [c3] at hP;cases hP
   | true=>
    cases c4:XR s' x with
    | true=>rw [c3,c4] at hP;cases hP
    | false=>
     rw [c4] at k2;exact ⟨_,by simp only [go_sem,Nat.reduceBEq,reduceAdd,reduceSub,reduceMul,reduceLT,reduceLeDiff,reduceIte,c8L1b,hg,hi',hia,encS,k1,k2,c3,beq_self_eq_true,hbS];rfl,trivial⟩)
  (⟨_,by simp only [go_sem,Nat.reduceBEq,reduceAdd,reduceSub,reduceMul,reduceLT,reduceLeDiff,reduceIte,c8L1b,ZG,beq_self_eq_true,hbS];rfl,by simp only [go_sem,Nat.reduceBEq,reduceAdd,reduceSub,reduceMul,reduceLT,reduceLeDiff,reduceIte],by simp only [go_sem,Nat.reduceBEq,reduceAdd,reduceSub,reduceMul,reduceLT,reduceLeDiff,reduceIte]⟩)
 rw [QE] at L;exact L
theorem Z4Y:StS Yh:=⟨Nat.zero_le _,Nat.zero_le _,Nat.zero_le _,Nat.zero_le _,Nat.zero_le _,Nat.zero_le _,Nat.zero_le _⟩
theorem Z4Z (s:Sta) (hs:StF s) (a:Int) (e:Event) (he:EvS e):StS (ZP s a e):=by
 unfold ZP;cases okB s a e&&(Q1 (wk0 s a e)==0&&Wh (stepW (wk0 s a e)).s.Doors) with
 | true=>exact FN s hs a e he
 | false=>exact Z4Y
theorem Z50 (e:Event) (he:EvS e):(YX e).length≤1000:=by
 have:=he.lst;unfold YX;cases Km e with
 | true=>simp
 | false=>
  cases e.Kind==9 with
  | true=>simp;omega
  | false=>simp
def HO (s:Sta) (a:Int) (e:Event):Bool:=(YX e).all (Vx s (ZP s a e) (Qk s a e))
theorem Z51 (s:Sta) (a:Int) (e:Event) (hlaw:(YQ s&&Xn e)=true→(Qk s a e==1)=false→HO s a e=true):pfn rE 8 [stA s,I a,evA e]=some (.bool true):=by
 have hbS:∀ n (K:List Str),Zd n (K.map encS)=true:=fun n K=>ZN _ (Zw (fun t=>rfl) K)
 have hH:=Z4U;have hF:=Z4G s e;rw [Z5 (f:=8) (c:=c8) rfl rfl,c8_eq];cases c:YQ s&&Xn e with
 | false=>
  rw [c] at hF;simp only [go_sem,Nat.reduceBEq,reduceAdd,reduceSub,reduceMul,reduceLT,reduceLeDiff,reduceIte,s8p0,s8p1,s8p2,hH,hF]
 | true=>
 rw [c] at hF;have hl:=hlaw c;rw [Bool.and_eq_true] at c;have hs:=Kl s c.1;have he:=JL e c.2;have h4:=Z4W s a e (by have:=he.lst;omega)
 have hA:=JJ s hs a e he;have hz:=Z4Z s hs a e he;have hn:=Z50 e he;obtain ⟨fr',h7,q7,_⟩:=Z4X s (ZP s a e) hs.e.sizes hz (Qk s a e) (YX e) hn;unfold HO at hl;generalize ZP s a e=S' at *;generalize Qk s a e=err at *;generalize YX e=K at *;simp only [stI,evI] at h4 h7;cases c1:err==1 with
 | true=>
  simp only [go_sem,Nat.reduceBEq,reduceAdd,reduceSub,reduceMul,reduceLT,reduceLeDiff,reduceIte,s8p0,s8p1,s8p2,s8p3,s8p5,s8p6,hH,hF,h4,hA,c1,hbS]
 | false=>
  have hl':=hl c1;rw [if_pos hl'] at h7;obtain ⟨q6,q7'⟩:=q7 hl';simp only [go_sem,Nat.reduceBEq,reduceAdd,reduceSub,reduceMul,reduceLT,reduceLeDiff,reduceIte,s8p0,s8p1,s8p2,s8p3,s8p5,s8p6,s8p7,s8p8,c8L1,hH,hF,h4,hA,c1,h7,q6,q7',hbS]
end Go.AM
namespace Go.AM
open Go
theorem str_eq {a b:Str}:Z3 a b=true↔a=b:=Ky a b
theorem Z52 {l:List Str} {id:Str}:l.any (fun x=>Z3 id x)=true↔id∈l:=by
 rw [List.any_eq_true];constructor
 ·rintro ⟨x,hx,h⟩;rw [str_eq] at h;rw [h];exact hx
 ·intro h;exact ⟨id,h,str_eq.2 rfl⟩
theorem Z53 {α:Type} {f:α→Str} {l:List α} {id:Str}:l.all (fun x=>!Z3 (f x) id)=true↔id ∉ l.map f:=by
 rw [List.all_eq_true];constructor
 ·intro h hm;obtain ⟨x,hx,rfl⟩:=List.mem_map.1 hm;have:=h x hx;rw [str_eq.2 rfl] at this;cases this
 ·intro h x hx;cases c:Z3 (f x) id with
  | false=>rfl
  | true=>exact (h (List.mem_map.2 ⟨x,hx,str_eq.1 c⟩)).elim
theorem Z54 {s:Sta} {id:Str}:decide (Zn s id ≥ 0)=true↔id∈s.Doors.map (·.Id):=by
 unfold Zn;rcases UA (fun x:Door=>Z3 x.Id id) s.Doors 0 with ⟨h1,h2⟩ | ⟨j,x,h1,h2,h3⟩
 ·rw [h1];constructor
  ·intro h;have:=of_decide_eq_true h;omega
  ·intro h;obtain ⟨x,hx,e⟩:=List.mem_map.1 h;have:=List.find?_eq_none.1 h2 x hx;exact (this (str_eq.2 e)).elim
 ·have hx:=List.find?_some h3;have e:x.Id=id:=str_eq.1 hx;constructor
  ·intro _;exact List.mem_map.2 ⟨x,List.mem_of_getElem? h2,e⟩
  ·intro _;rw [h1];exact decide_eq_true (by omega)
theorem FV {s:Sta} {id:Str}:XR s id=true↔id∈Qp s:=by
 unfold XR Qp;rw [Bool.not_eq_true',Bool.eq_false_iff];simp only [ne_eq,Bool.and_eq_true,Z53,Bool.not_eq_true',Bool.eq_false_iff,Z54,List.mem_append];constructor
 ·intro h;by_cases a:id∈s.Regions.map (·.Id)
  ·exact Or.inl a
  by_cases b:id∈s.Streets.map (·.Id)
  ·exact Or.inr (Or.inl b)
  by_cases c:id∈s.Buildings.map (·.Id)
  ·exact Or.inr (Or.inr (Or.inl c))
  by_cases d:id∈s.Doors.map (·.Id)
  ·exact Or.inr (Or.inr (Or.inr (Or.inl d)))
  by_cases e:id∈s.Units.map (·.Id)
  ·exact Or.inr (Or.inr (Or.inr (Or.inr e)))
  exact (h ⟨a,b,c,e,d⟩).elim
 ·rintro (h | h | h | h | h) ⟨a,b,c,e,d⟩
  ·exact a h
  ·exact b h
  ·exact c h
  ·exact d h
  ·exact e h
theorem Z55 {s:Sta} {a:Int} {e:Event} {id:Str}:twB (wk0 s a e) id=true↔id∈Qp s:=Z52
theorem Z56 {s:Sta} {a:Int} {e:Event} (h:(Qk s a e==1)=false):okB s a e=true:=by
 cases c:okB s a e with
 | true=>rfl
 | false=>unfold Qk at h;rw [c] at h;cases h
theorem Z57 {s:Sta} {a:Int} {e:Event} (hk:okB s a e=true) {n:Int} (hn:(n==0)=false) (h:Q1 (wk0 s a e)=n):Qk s a e=n:=by
 unfold Qk;rw [hk,h,hn];rfl
theorem Z58 {s:Sta} {a:Int} {e:Event} (h:Qk s a e=0):okB s a e=true∧Q1 (wk0 s a e)=0∧ZP s a e=(stepW (wk0 s a e)).s:=by
 unfold Qk at h;unfold ZP;cases c:okB s a e with
 | false=>rw [c] at h;cases h
 | true=>
 rw [c] at h;cases c2:Q1 (wk0 s a e)==0 with
 | false=>rw [c2] at h;have h':Q1 (wk0 s a e)=0:=h
          rw [h'] at c2;cases c2
 | true=>
 rw [c2] at h;cases c3:Wh (stepW (wk0 s a e)).s.Doors with
 | false=>rw [c3] at h;cases h
 | true=>exact ⟨rfl,by simpa using c2,rfl⟩
theorem Yi {e:Event} {k:Nat} (h:(e.Kind==(k:Int))=true):e.Kind.toNat=k:=by
 have:e.Kind=(k:Int):=by simpa using h
 rw [this];rfl
theorem Z59 {w:Wk} (h:w.e.Kind.toNat=2):Q1 w=bif twB w w.e.Id then 8 else 0:=by unfold Q1;rw [h];rfl
theorem Z5a {w:Wk} (h:w.e.Kind.toNat=2):stepW w=Jz w:=by unfold stepW;rw [h];rfl
theorem Z5b {w:Wk} (h:w.e.Kind.toNat=5):Q1 w=bif twB w w.e.Id then 8 else 0:=by unfold Q1;rw [h];rfl
theorem Z5c {w:Wk} (h:w.e.Kind.toNat=5):stepW w=JA w:=by unfold stepW;rw [h];rfl
theorem Z5d {w:Wk} (h:w.e.Kind.toNat=6):Q1 w=JD w:=by unfold Q1;rw [h];rfl
theorem Z5e {w:Wk} (h:w.e.Kind.toNat=6):stepW w=Qw w (UE w):=by unfold stepW;rw [h];rfl
theorem Z5f {w:Wk} (h:w.e.Kind.toNat=7):Q1 w=JB w:=by unfold Q1;rw [h];rfl
theorem Z5g {w:Wk} (h:w.e.Kind.toNat=7):stepW w=JC w:=by unfold stepW;rw [h];rfl
theorem FW {w:Wk} (h:w.e.Kind.toNat=9):Q1 w=Ka w:=by unfold Q1;rw [h];rfl
theorem Z5h {w:Wk} (h:w.e.Kind.toNat=9):stepW w=Kb w:=by unfold stepW;rw [h];rfl
theorem FX {w:Wk} (h:w.e.Kind.toNat=10):Q1 w=Kc w:=by unfold Q1;rw [h];rfl
theorem Z5i {w:Wk} (h:w.e.Kind.toNat=10):stepW w=Kd w:=by unfold stepW;rw [h];rfl
theorem Z5j {w:Wk} (h:w.e.Kind.toNat=15):Q1 w=bif twB w w.e.Id then 8 else 0:=by unfold Q1;rw [h];rfl
theorem Z5k {w:Wk} (h:w.e.Kind.toNat=15):stepW w=Qw w (UD w):=by unfold stepW;rw [h];rfl
theorem Z5l {s:Sta} {a:Int} {e:Event} {id:Str} (hid:id∈YX e) (hk:id∈Qp s):Q1 (wk0 s a e)=8:=by
 have htw:twB (wk0 s a e) id=true:=Z55.2 hk;unfold YX at hid;cases c:Km e with
 | true=>
  rw [c,cond_true,List.mem_singleton] at hid;subst hid;have htw:twB (wk0 s a e) (wk0 s a e).e.Id=true:=htw;unfold Km at c;simp only [Bool.or_eq_true] at c;rcases c with c | c | c | c | c | c
  ·rw [Z59 (w:=wk0 s a e) (Yi (k:=2) c),htw];rfl
  ·rw [Z5b (w:=wk0 s a e) (Yi (k:=5) c),htw];rfl
  ·rw [Z5d (w:=wk0 s a e) (Yi (k:=6) c),JD,htw];rfl
  ·rw [Z5f (w:=wk0 s a e) (Yi (k:=7) c),JB,htw];rfl
  ·rw [FX (w:=wk0 s a e) (Yi (k:=10) c),Kc,htw];rfl
  ·rw [Z5j (w:=wk0 s a e) (Yi (k:=15) c),htw];rfl
 | false=>
 rw [c,cond_false] at hid;cases c9:e.Kind==9 with
 | false=>rw [c9] at hid;cases hid
 | true=>
  rw [c9,cond_true] at hid;obtain ⟨x,hx,rfl⟩:=List.mem_map.1 hid;rw [FW (w:=wk0 s a e) (Yi (k:=9) c9),Ka];have:WO (wk0 s a e) (wk0 s a e).e.Lst.l=false:=by
   show WO (wk0 s a e) e.Lst.l=false
   unfold WO;rw [QE];cases d:e.Lst.l.all (fun x=>!twB (wk0 s a e) x.Id) with
   | false=>rfl
   | true=>
    rw [List.all_eq_true] at d;have:=d x hx;rw [htw] at this;cases this
  rw [this];rfl
theorem Z5m {l:List Door} {k:Nat} {f:Door→Door} (h:∀ x,(f x).Id=x.Id):(ZK l k f).map (·.Id)=l.map (·.Id):=FK _ _ h _ _
theorem FY (w:Wk) (k:Nat) (a:NL Str):(Qf w k a).s.Doors.map (·.Id)=w.s.Doors.map (·.Id):=by
 unfold Qf;split
 ·exact Z5m (fun _=>rfl)
 ·rfl
theorem Z5n (l:List Int) (a:NL Str):∀ w:Wk,(Yg w l a).s.Doors.map (·.Id)=w.s.Doors.map (·.Id):=by
 induction l with
 | nil=>intro w;rfl
 | cons x r ih=>intro w;rw [UJ,ih,FY]
theorem Z5o {s:Sta} {id:Str} (h:id∈s.Streets.map (·.Id)):id∈Qp s:=by unfold Qp;simp only [List.mem_append];exact Or.inr (Or.inl h)
theorem Z5p {s:Sta} {id:Str} (h:id∈s.Buildings.map (·.Id)):id∈Qp s:=by unfold Qp;simp only [List.mem_append];exact Or.inr (Or.inr (Or.inl h))
theorem M6 {s:Sta} {id:Str} (h:id∈s.Doors.map (·.Id)):id∈Qp s:=by unfold Qp;simp only [List.mem_append];exact Or.inr (Or.inr (Or.inr (Or.inl h)))
theorem Z5q {s:Sta} {id:Str} (h:id∈s.Units.map (·.Id)):id∈Qp s:=by unfold Qp;simp only [List.mem_append];exact Or.inr (Or.inr (Or.inr (Or.inr h)))
theorem FZ (w:Wk) (d:Door):d.Id∈Qp (Qw w d).s:=M6 (by simp [Qw,Xl])
theorem Z5r {s:Sta} {a:Int} {e:Event} {id:Str} (hok:okB s a e=true) (h0:Q1 (wk0 s a e)=0) (hid:id∈YX e):id∈Qp (stepW (wk0 s a e)).s:=by
 have ew:(wk0 s a e).e=e:=rfl;unfold YX at hid;cases c:Km e with
 | true=>
  rw [c,cond_true,List.mem_singleton] at hid;subst hid;unfold Km at c;simp only [Bool.or_eq_true] at c;rcases c with c | c | c | c | c | c
  ·rw [Z5a (w:=wk0 s a e) (Yi (k:=2) c)];exact Z5o (by simp [Jz,NP,wk0])
  ·rw [Z5c (w:=wk0 s a e) (Yi (k:=5) c)];exact Z5p (by simp [JA,NQ,wk0])
  ·rw [Z5e (w:=wk0 s a e) (Yi (k:=6) c)];exact FZ _ (UE (wk0 s a e))
  ·rw [Z5g (w:=wk0 s a e) (Yi (k:=7) c)];exact Z5q (by simp [JC,NR,wk0])
  ·rw [Z5i (w:=wk0 s a e) (Yi (k:=10) c)];rw [FX (w:=wk0 s a e) (Yi (k:=10) c)] at h0;unfold Kc at h0;cases d1:twB (wk0 s a e) (wk0 s a e).e.Id with
   | true=>rw [d1] at h0;cases h0
   | false=>
   rw [d1,cond_false] at h0;cases d2:(Zf (wk0 s a e)).any (fun x=>-1==x) with
   | true=>rw [d2] at h0;cases h0
   | false=>
   have hf:Q9 e=true:=by unfold okB at hok;simp only [Bool.and_eq_true] at hok;exact hok.2.2
   have hpos:=FO e hf (by have:=Yi (k:=10) c;have h3:e.Kind=((10:Nat):Int):=by simpa using c
                          exact h3)
   have hlen:(Zf (wk0 s a e)).length=e.Ids.l.length:=by simp [Zf,wk0]
   obtain ⟨j,d,hj,hd⟩:=UK (wk0 s a e) d2 (FD (l:=Zf (wk0 s a e)) (by omega))
   have hn:((j:Int)).toNat=j:=rfl;unfold Kd;rw [hj,hn,hd];dsimp only;exact M6 (by rw [Z5n];simp [Qw,Xl,WP,wk0])
  ·rw [Z5k (w:=wk0 s a e) (Yi (k:=15) c)];exact FZ _ (UD (wk0 s a e))
 | false=>
 rw [c,cond_false] at hid;cases c9:e.Kind==9 with
 | false=>rw [c9] at hid;cases hid
 | true=>
  rw [c9,cond_true] at hid;rw [Z5h (w:=wk0 s a e) (Yi (k:=9) c9)];rw [FW (w:=wk0 s a e) (Yi (k:=9) c9)] at h0;unfold Ka at h0;cases d1:WO (wk0 s a e) (wk0 s a e).e.Lst.l with
  | false=>rw [d1] at h0;cases h0
  | true=>
  rw [d1,Bool.not_true,cond_false] at h0;cases d2:decide (Zn (wk0 s a e).s (wk0 s a e).e.Id < 0) with
  | true=>rw [d2] at h0;cases h0
  | false=>
  obtain ⟨j,d,hj,hd⟩:=QC d2;have hj':Zn (wk0 s a e).s (wk0 s a e).e.Id=(j:Int):=hj;have hn:((j:Int)).toNat=j:=rfl;unfold Kb;rw [hj',hn,hd];dsimp only;refine M6 ?_;rw [FY];obtain ⟨x,hx,rfl⟩:=List.mem_map.1 hid;unfold Y5;rw [List.map_append,List.map_map,List.mem_append];exact Or.inr (List.mem_map.2 ⟨x,hx,rfl⟩)
theorem Z5s (s:Sta) (a:Int) (e:Event) (h:(Qk s a e==1)=false):HO s a e=true:=by
 have hok:=Z56 h;unfold HO;rw [List.all_eq_true];intro id hid;unfold Vx;cases c1:XR s id with
 | true=>
  have h8:=Z57 hok (n:=8) rfl (Z5l (a:=a) hid (FV.1 c1));rw [h8];rfl
 | false=>
 cases c2:Qk s a e==0 with
 | false=>rfl
 | true=>
  have h0:Qk s a e=0:=by simpa using c2
  obtain ⟨_,h1,h2⟩:=Z58 h0;have:=FV.2 (Z5r hok h1 hid);rw [h2,this];rfl
theorem Z5t (s:Sta) (a:Int) (e:Event):pfn rE 8 [stA s,I a,evA e]=some (.bool true):=Z51 s a e (fun _ h=>Z5s s a e h)
end Go.AM
