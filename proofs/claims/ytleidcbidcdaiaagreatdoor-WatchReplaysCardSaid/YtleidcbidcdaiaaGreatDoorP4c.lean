/- What the functions of the program compute, part 3, for WatchReplays. No condition. -/
import Derived.Test.YtleidcbidcdaiaaGreatDoorP4b
set_option linter.unusedVariables false
set_option linter.unusedSimpArgs false
set_option linter.unusedSectionVars false
open Nat renaming reduceAdd → qq, reduceSub → qx, reduceMul → qz, reduceLT → qv, reduceLeDiff → qk, reduceBEq → qy
namespace Go.AM
open Go
def WQ (x:Region):Bool:=[x.Id].all ZU&&(XQ x.Names.l&&(!decide ((x.Ring.l.length:Int) > 12)))
def WR (x:Street):Bool:=[x.Id].all ZU&&(XQ x.Names.l&&(!decide ((x.Line.l.length:Int) > 12)))
def WS (x:Building):Bool:=[x.Id].all ZU&&(!decide ((x.Ring.l.length:Int) > 12))
def WT (x:Door):Bool:=[x.Id,x.Building,x.Street,x.Number.Letter,x.Veil].all ZU&&(!decide ((x.After.l.length:Int) > 10)&&(x.After.l.all ZU))
def WU (x:Unit'):Bool:=[x.Id,x.Door,x.Text].all ZU
theorem Z4A (s:Sta) (hl:s.Regions.length≤1000):∃ fr',Zg rE [1,3] c16L0b [(1,stI s),(3,.int .i64 0)] []=some (if s.Regions.all WQ=true then .exit 0 else .ret,fr',[])∧(s.Regions.all WQ=true→get fr' 1=stI s∧get fr' 2=.bot)∧(s.Regions.all WQ=false→get fr' 2=.bool false):=by
 have L:=QT (E:=rE) (live:=[1,3]) (b:=c16L0b) (h:=[]) s.Regions (fun _ x=>WQ x) (fun i=>[(1,stI s),(3,I i)]) 0 (fun fr=>get fr 1=stI s∧get fr 2=.bot) (fun fr=>get fr 2=.bool false) (fun i=>rfl)
  (fun i x hx hP=>by
   have hg:=Z6 (f:=Region.enc) hx;have hi:=Zh (Z7 hx);have hw:=Zx (n:=i) (by have:=Z7 hx;omega)
   have hS:=JK x.Id;have hN:=UQ x.Names.ex x.Names.l;simp only [WQ,ZNz,ZNX] at hP;obtain ⟨p0,p1,p2⟩:=hP;rw [p0] at hS;rw [p1] at hN;refine ⟨_,by simp only [go_sem,qy,qq,qv,qk,reduceIte,c16L0b,hg,hi,hw,Region.enc,NL.enc,hS,hN,p2];rfl,?_⟩
   simp only [go_sem,qy])
  (fun i x hx hP=>by
   have hg:=Z6 (f:=Region.enc) hx;have hi:=Zh (Z7 hx);have hS:=JK x.Id;have hN:=UQ x.Names.ex x.Names.l;unfold WQ at hP;cases c0:[x.Id].all ZU with
   | false=>
    rw [c0] at hS;refine ⟨_,by simp only [go_sem,qy,qq,qv,qk,reduceIte,c16L0b,hg,hi,Region.enc,NL.enc,hS];rfl,?_⟩
    simp only [go_sem,qy]
   | true=>
   rw [c0] at hS hP;cases c1:XQ x.Names.l with
   | false=>
    rw [c1] at hN;refine ⟨_,by simp only [go_sem,qy,qq,qv,qk,reduceIte,c16L0b,hg,hi,Region.enc,NL.enc,hS,hN];rfl,?_⟩
    simp only [go_sem,qy]
   | true=>
   rw [c1] at hN hP;cases c2:decide ((x.Ring.l.length:Int) > 12) with
   | true=>
    refine ⟨_,by simp only [go_sem,qy,qq,qv,qk,reduceIte,c16L0b,hg,hi,Region.enc,NL.enc,hS,hN,c2];rfl,?_⟩
    simp only [go_sem,qy]
   | false=>
   rw [c2] at hP;cases hP)
  (⟨_,by simp only [go_sem,qy,reduceIte,c16L0b,ZG];rfl,by simp only [go_sem,qy],by simp only [go_sem,qy]⟩)
 rw [QE] at L;exact L
theorem Z4B (s:Sta) (hl:s.Streets.length≤1000):∃ fr',Zg rE [1,4] c16L1b [(1,stI s),(4,.int .i64 0)] []=some (if s.Streets.all WR=true then .exit 2 else .ret,fr',[])∧(s.Streets.all WR=true→get fr' 1=stI s∧get fr' 2=.bot)∧(s.Streets.all WR=false→get fr' 2=.bool false):=by
 have L:=QT (E:=rE) (live:=[1,4]) (b:=c16L1b) (h:=[]) s.Streets (fun _ x=>WR x) (fun i=>[(1,stI s),(4,I i)]) 2 (fun fr=>get fr 1=stI s∧get fr 2=.bot) (fun fr=>get fr 2=.bool false) (fun i=>rfl)
  (fun i x hx hP=>by
   have hg:=Z6 (f:=Street.enc) hx;have hi:=Zh (Z7 hx);have hw:=Zx (n:=i) (by have:=Z7 hx;omega)
   have hS:=JK x.Id;have hN:=UQ x.Names.ex x.Names.l;simp only [WR,ZNz,ZNX] at hP;obtain ⟨p0,p1,p2⟩:=hP;rw [p0] at hS;rw [p1] at hN;refine ⟨_,by simp only [go_sem,qy,qq,qv,qk,reduceIte,c16L1b,hg,hi,hw,Street.enc,NL.enc,hS,hN,p2];rfl,?_⟩
   simp only [go_sem,qy])
  (fun i x hx hP=>by
   have hg:=Z6 (f:=Street.enc) hx;have hi:=Zh (Z7 hx);have hS:=JK x.Id;have hN:=UQ x.Names.ex x.Names.l;unfold WR at hP;cases c0:[x.Id].all ZU with
   | false=>
    rw [c0] at hS;refine ⟨_,by simp only [go_sem,qy,qq,qv,qk,reduceIte,c16L1b,hg,hi,Street.enc,NL.enc,hS];rfl,?_⟩
    simp only [go_sem,qy]
   | true=>
   rw [c0] at hS hP;cases c1:XQ x.Names.l with
   | false=>
    rw [c1] at hN;refine ⟨_,by simp only [go_sem,qy,qq,qv,qk,reduceIte,c16L1b,hg,hi,Street.enc,NL.enc,hS,hN];rfl,?_⟩
    simp only [go_sem,qy]
   | true=>
   rw [c1] at hN hP;cases c2:decide ((x.Line.l.length:Int) > 12) with
   | true=>
    refine ⟨_,by simp only [go_sem,qy,qq,qv,qk,reduceIte,c16L1b,hg,hi,Street.enc,NL.enc,hS,hN,c2];rfl,?_⟩
    simp only [go_sem,qy]
   | false=>
   rw [c2] at hP;cases hP)
  (⟨_,by simp only [go_sem,qy,reduceIte,c16L1b,ZG];rfl,by simp only [go_sem,qy],by simp only [go_sem,qy]⟩)
 rw [QE] at L;exact L
theorem Z4C (s:Sta) (hl:s.Buildings.length≤1000):∃ fr',Zg rE [1,5] c16L2b [(1,stI s),(5,.int .i64 0)] []=some (if s.Buildings.all WS=true then .exit 4 else .ret,fr',[])∧(s.Buildings.all WS=true→get fr' 1=stI s∧get fr' 2=.bot)∧(s.Buildings.all WS=false→get fr' 2=.bool false):=by
 have L:=QT (E:=rE) (live:=[1,5]) (b:=c16L2b) (h:=[]) s.Buildings (fun _ x=>WS x) (fun i=>[(1,stI s),(5,I i)]) 4 (fun fr=>get fr 1=stI s∧get fr 2=.bot) (fun fr=>get fr 2=.bool false) (fun i=>rfl)
  (fun i x hx hP=>by
   have hg:=Z6 (f:=Building.enc) hx;have hi:=Zh (Z7 hx);have hw:=Zx (n:=i) (by have:=Z7 hx;omega)
   have hS:=JK x.Id;simp only [WS,ZNz,ZNX] at hP;obtain ⟨p0,p1⟩:=hP;rw [p0] at hS;refine ⟨_,by simp only [go_sem,qy,qq,qv,qk,reduceIte,c16L2b,hg,hi,hw,Building.enc,NL.enc,hS,p1];rfl,?_⟩
   simp only [go_sem,qy])
  (fun i x hx hP=>by
   have hg:=Z6 (f:=Building.enc) hx;have hi:=Zh (Z7 hx);have hS:=JK x.Id;unfold WS at hP;cases c0:[x.Id].all ZU with
   | false=>
    rw [c0] at hS;refine ⟨_,by simp only [go_sem,qy,qq,qv,qk,reduceIte,c16L2b,hg,hi,Building.enc,NL.enc,hS];rfl,?_⟩
    simp only [go_sem,qy]
   | true=>
   rw [c0] at hS hP;cases c2:decide ((x.Ring.l.length:Int) > 12) with
   | true=>
    refine ⟨_,by simp only [go_sem,qy,qq,qv,qk,reduceIte,c16L2b,hg,hi,Building.enc,NL.enc,hS,c2];rfl,?_⟩
    simp only [go_sem,qy]
   | false=>
   rw [c2] at hP;cases hP)
  (⟨_,by simp only [go_sem,qy,reduceIte,c16L2b,ZG];rfl,by simp only [go_sem,qy],by simp only [go_sem,qy]⟩)
 rw [QE] at L;exact L
theorem Z4D (s:Sta) (hl:s.Doors.length≤1000):∃ fr',Zg rE [1,6] c16L3b [(1,stI s),(6,.int .i64 0)] []=some (if s.Doors.all WT=true then .exit 6 else .ret,fr',[])∧(s.Doors.all WT=true→get fr' 1=stI s∧get fr' 2=.bot)∧(s.Doors.all WT=false→get fr' 2=.bool false):=by
 have L:=QT (E:=rE) (live:=[1,6]) (b:=c16L3b) (h:=[]) s.Doors (fun _ x=>WT x) (fun i=>[(1,stI s),(6,I i)]) 6 (fun fr=>get fr 1=stI s∧get fr 2=.bot) (fun fr=>get fr 2=.bool false) (fun i=>rfl)
  (fun i x hx hP=>by
   have hg:=Z6 (f:=Door.enc) hx;have hi:=Zh (Z7 hx);have hw:=Zx (n:=i) (by have:=Z7 hx;omega)
   have hS:=FQ x.Id x.Building x.Street x.Number.Letter x.Veil;simp only [WT,ZNz,ZNX] at hP;obtain ⟨p0,p1,p2⟩:=hP;rw [p0] at hS;have hA:=Vv false x.After.ex x.After.l (by have:=of_decide_eq_false p1;omega)
   rw [p2] at hA;refine ⟨_,by simp only [go_sem,qy,qq,qv,qk,reduceIte,c16L3b,hg,hi,hw,Door.enc,NL.enc,hS,p1,hA];rfl,?_⟩
   simp only [go_sem,qy])
  (fun i x hx hP=>by
   have hg:=Z6 (f:=Door.enc) hx;have hi:=Zh (Z7 hx);have hS:=FQ x.Id x.Building x.Street x.Number.Letter x.Veil;unfold WT at hP;cases c0:[x.Id,x.Building,x.Street,x.Number.Letter,x.Veil].all ZU with
   | false=>
    rw [c0] at hS;refine ⟨_,by simp only [go_sem,qy,qq,qv,qk,reduceIte,c16L3b,hg,hi,Door.enc,NL.enc,hS];rfl,?_⟩
    simp only [go_sem,qy]
   | true=>
   rw [c0] at hS hP;cases c2:decide ((x.After.l.length:Int) > 10) with
   | true=>
    refine ⟨_,by simp only [go_sem,qy,qq,qv,qk,reduceIte,c16L3b,hg,hi,Door.enc,NL.enc,hS,c2];rfl,?_⟩
    simp only [go_sem,qy]
   | false=>
   rw [c2] at hP;have hA:=Vv false x.After.ex x.After.l (by have:=of_decide_eq_false c2;omega)
   cases c5003:x.After.l.all ZU with
   | false=>
    rw [c5003] at hA;refine ⟨_,by simp only [go_sem,qy,qq,qv,qk,reduceIte,c16L3b,hg,hi,Door.enc,NL.enc,hS,c2,hA];rfl,?_⟩
    simp only [go_sem,qy]
   | true=>rw [c5003] at hP;cases hP)
  (⟨_,by simp only [go_sem,qy,reduceIte,c16L3b,ZG];rfl,by simp only [go_sem,qy],by simp only [go_sem,qy]⟩)
 rw [QE] at L;exact L
theorem Z4E (s:Sta) (hl:s.Units.length≤1000):∃ fr',Zg rE [1,8] c16L4b [(1,stI s),(8,.int .i64 0)] []=some (if s.Units.all WU=true then .exit 8 else .ret,fr',[])∧(s.Units.all WU=true→get fr' 1=stI s∧get fr' 2=.bot)∧(s.Units.all WU=false→get fr' 2=.bool false):=by
 have L:=QT (E:=rE) (live:=[1,8]) (b:=c16L4b) (h:=[]) s.Units (fun _ x=>WU x) (fun i=>[(1,stI s),(8,I i)]) 8 (fun fr=>get fr 1=stI s∧get fr 2=.bot) (fun fr=>get fr 2=.bool false) (fun i=>rfl)
  (fun i x hx hP=>by
   have hg:=Z6 (f:=Unit'.enc) hx;have hi:=Zh (Z7 hx);have hw:=Zx (n:=i) (by have:=Z7 hx;omega)
   have hS:=FP x.Id x.Door x.Text;simp only [WU] at hP;have p0:=hP;rw [p0] at hS;refine ⟨_,by simp only [go_sem,qy,qq,qv,qk,reduceIte,c16L4b,hg,hi,hw,Unit'.enc,hS];rfl,?_⟩
   simp only [go_sem,qy])
  (fun i x hx hP=>by
   have hg:=Z6 (f:=Unit'.enc) hx;have hi:=Zh (Z7 hx);have hS:=FP x.Id x.Door x.Text;unfold WU at hP;cases c0:[x.Id,x.Door,x.Text].all ZU with
   | false=>
    rw [c0] at hS;refine ⟨_,by simp only [go_sem,qy,qq,qv,qk,reduceIte,c16L4b,hg,hi,Unit'.enc,hS];rfl,?_⟩
    simp only [go_sem,qy]
   | true=>
   rw [c0] at hS hP;cases hP)
  (⟨_,by simp only [go_sem,qy,reduceIte,c16L4b,ZG];rfl,by simp only [go_sem,qy],by simp only [go_sem,qy]⟩)
 rw [QE] at L;exact L
def M3 (s:Sta):Bool:=!decide ((s.Regions.length:Int) > 8)&&(!decide ((s.Streets.length:Int) > 8)&&(!decide ((s.Buildings.length:Int) > 8)&&(!decide ((s.Doors.length:Int) > 16)&&(!decide ((s.Units.length:Int) > 10)&&(!decide ((s.Merged.length:Int) > 10)&&!decide ((s.Rulings.length:Int) > 10))))))
def YQ (s:Sta):Bool:=M3 s&&(s.Regions.all WQ&&(s.Streets.all WR&&(s.Buildings.all WS&&(s.Doors.all WT&&s.Units.all WU))))
theorem Z4F (s:Sta):pfn rE 16 [stA s]=some (.bool (YQ s)):=by
 rw [Z5 (f:=16) rfl rfl];unfold YQ M3;cases d0:decide ((s.Regions.length:Int) > 8) with
 | true=>simp only [go_sem,qy,qq,reduceIte,c16,d0]
 | false=>
 cases d1:decide ((s.Streets.length:Int) > 8) with
 | true=>simp only [go_sem,qy,qq,reduceIte,c16,d0,d1]
 | false=>
 cases d2:decide ((s.Buildings.length:Int) > 8) with
 | true=>simp only [go_sem,qy,qq,reduceIte,c16,d0,d1,d2]
 | false=>
 cases d3:decide ((s.Doors.length:Int) > 16) with
 | true=>simp only [go_sem,qy,qq,reduceIte,c16,d0,d1,d2,d3]
 | false=>
 cases d4:decide ((s.Units.length:Int) > 10) with
 | true=>simp only [go_sem,qy,qq,reduceIte,c16,d0,d1,d2,d3,d4]
 | false=>
 cases d5:decide ((s.Merged.length:Int) > 10) with
 | true=>simp only [go_sem,qy,qq,reduceIte,c16,d0,d1,d2,d3,d4,d5]
 | false=>
 cases d6:decide ((s.Rulings.length:Int) > 10) with
 | true=>simp only [go_sem,qy,qq,reduceIte,c16,d0,d1,d2,d3,d4,d5,d6]
 | false=>
 obtain ⟨f0,l0,a0,b0⟩:=Z4A s (by have:=of_decide_eq_false d0;omega)
 simp only [stI] at l0 a0;cases e0:s.Regions.all WQ with
 | false=>
  rw [e0] at l0;simp only [go_sem,qy,qq,reduceIte,c16,d0,d1,d2,d3,d4,d5,d6,c16L0,l0,b0 e0,ZNI]
 | true=>
 rw [e0] at l0;obtain ⟨q0,r0⟩:=a0 e0;obtain ⟨f1,l1,a1,b1⟩:=Z4B s (by have:=of_decide_eq_false d1;omega)
 simp only [stI] at l1 a1;cases e1:s.Streets.all WR with
 | false=>
  rw [e1] at l1;simp only [go_sem,qy,qq,reduceIte,c16,d0,d1,d2,d3,d4,d5,d6,c16L0,l0,q0,r0,c16L1,l1,b1 e1,ZNI]
 | true=>
 rw [e1] at l1;obtain ⟨q1,r1⟩:=a1 e1;obtain ⟨f2,l2,a2,b2⟩:=Z4C s (by have:=of_decide_eq_false d2;omega)
 simp only [stI] at l2 a2;cases e2:s.Buildings.all WS with
 | false=>
  rw [e2] at l2;simp only [go_sem,qy,qq,reduceIte,c16,d0,d1,d2,d3,d4,d5,d6,c16L0,l0,q0,r0,c16L1,l1,q1,r1,c16L2,l2,b2 e2,ZNI]
 | true=>
 rw [e2] at l2;obtain ⟨q2,r2⟩:=a2 e2;obtain ⟨f3,l3,a3,b3⟩:=Z4D s (by have:=of_decide_eq_false d3;omega)
 simp only [stI] at l3 a3;cases e3:s.Doors.all WT with
 | false=>
  rw [e3] at l3;simp only [go_sem,qy,qq,reduceIte,c16,d0,d1,d2,d3,d4,d5,d6,c16L0,l0,q0,r0,c16L1,l1,q1,r1,c16L2,l2,q2,r2,c16L3,l3,b3 e3,ZNI]
 | true=>
 rw [e3] at l3;obtain ⟨q3,r3⟩:=a3 e3;obtain ⟨f4,l4,a4,b4⟩:=Z4E s (by have:=of_decide_eq_false d4;omega)
 simp only [stI] at l4 a4;cases e4:s.Units.all WU with
 | false=>
  rw [e4] at l4;simp only [go_sem,qy,qq,reduceIte,c16,d0,d1,d2,d3,d4,d5,d6,c16L0,l0,q0,r0,c16L1,l1,q1,r1,c16L2,l2,q2,r2,c16L3,l3,q3,r3,c16L4,l4,b4 e4,ZNI]
 | true=>
 rw [e4] at l4;obtain ⟨q4,r4⟩:=a4 e4;simp only [go_sem,qy,qq,c16,d0,d1,d2,d3,d4,d5,d6,c16L0,l0,q0,r0,c16L1,l1,q1,r1,c16L2,l2,q2,r2,c16L3,l3,q3,r3,c16L4,l4,r4,if_true]
theorem Kl (s:Sta) (h:YQ s=true):StF s:=by
 simp only [YQ,M3,ZNz,ZNX] at h;obtain ⟨⟨d0,d1,d2,d3,d4,d5,d6⟩,e0,e1,e2,e3,e4⟩:=h;have k0:=of_decide_eq_false d0;have k1:=of_decide_eq_false d1;have k2:=of_decide_eq_false d2;have k3:=of_decide_eq_false d3;have k4:=of_decide_eq_false d4;have k5:=of_decide_eq_false d5;have k6:=of_decide_eq_false d6;have hN:∀ l:List Nm,XQ l=true→l.length≤100:=fun l hl=>by
  simp only [XQ,ZNz] at hl;have:=of_decide_eq_true hl.2;omega
 rw [ZNO] at e0 e1 e2 e3 e4;refine ⟨⟨⟨by omega,by omega,by omega,by omega,by omega,by omega,by omega⟩,fun x hx=>?_,fun x hx=>?_,fun x hx=>?_,fun x hx=>?_,fun x hx=>?_⟩,by omega,by omega,by omega,by omega,by omega,by omega,by omega⟩
 ·have:=e0 x hx;simp only [WQ,ZNz,ZNX] at this;obtain ⟨p0,p1,p2⟩:=this;have p2':=of_decide_eq_false p2;simp [ZU] at p0;exact ⟨hN _ p1,by omega,by omega⟩
 ·have:=e1 x hx;simp only [WR,ZNz,ZNX] at this;obtain ⟨p0,p1,p2⟩:=this;have p2':=of_decide_eq_false p2;simp [ZU] at p0;exact ⟨hN _ p1,by omega,by omega⟩
 ·have:=e2 x hx;simp only [WS,ZNz,ZNX] at this;obtain ⟨p0,p2⟩:=this;have p2':=of_decide_eq_false p2;simp [ZU] at p0;exact ⟨by omega,by omega⟩
 ·have:=e3 x hx;simp only [WT,ZNz,ZNX] at this;obtain ⟨p0,p1,p2⟩:=this;have p1':=of_decide_eq_false p1;simp [ZU] at p0;exact ⟨by omega,by omega,by omega,by omega,by omega⟩
 ·have:=e4 x hx;simp only [WU] at this;simp [ZU] at this;exact ⟨by omega,by omega,by omega⟩
end Go.AM
namespace Go.AM
open Go
def HK (a b:List Str):Bool:=a.length==b.length&&Zu (fun i x=>match b[i]? with | some y=>Z3 x y | none=>false) 0 a
end Go.AM
namespace Go.AM
open Go
theorem Z4L (ea eb:Bool) (a b:List Str) (ha:a.length≤1000):pfn rE 32 [.isl false ea 1 (a.map encS),.isl false eb 1 (b.map encS)]=some (.bool (HK a b)):=by
 rw [Z5 (f:=32) rfl rfl];unfold HK;have hne:((a.length:Int) != (b.length:Int)) = !(a.length==b.length):=by
  cases h:a.length==b.length with
  | true=>have:a.length=b.length:=by simpa using h
          rw [this];simp
  | false=>have:a.length≠b.length:=by simpa using h
           simp;omega
 cases c:a.length==b.length with
 | false=>
  rw [c] at hne;simp only [go_sem,qy,qq,reduceIte,c32,hne]
 | true=>
 rw [c] at hne;have hlen:a.length=b.length:=by simpa using c
 have L:=QT (E:=rE) (live:=[0,1,5]) (b:=c32L0b) (h:=[]) a (fun i x=>match b[i]? with | some y=>Z3 x y | none=>false) (fun i=>[(0,.isl false ea 1 (a.map encS)),(1,.isl false eb 1 (b.map encS)),(5,I i)]) 0 (fun fr=>get fr 4=.bot) (fun fr=>get fr 4=.bool false) (fun i=>rfl)
  (fun i x hx hP=>by
   have hg:=Z6 (f:=encS) hx;have hi:=Zh (Z7 hx);have hw:=Zx (n:=i) (by have:=Z7 hx;omega)
   obtain ⟨y,hy⟩:∃ y,b[i]? = some y:=⟨_,ZND (by rw [←hlen];exact Z7 hx)⟩
   have hgy:=Z6 (f:=encS) hy;rw [hy] at hP;dsimp only at hP;refine ⟨_,by simp only [go_sem,qy,reduceIte,c32L0b,hg,hgy,hi,hw,encS,hP];rfl,?_⟩
   simp only [go_sem,qy])
  (fun i x hx hP=>by
   have hg:=Z6 (f:=encS) hx;have hi:=Zh (Z7 hx);obtain ⟨y,hy⟩:∃ y,b[i]? = some y:=⟨_,ZND (by rw [←hlen];exact Z7 hx)⟩
   have hgy:=Z6 (f:=encS) hy;rw [hy] at hP;dsimp only at hP;refine ⟨_,by simp only [go_sem,qy,reduceIte,c32L0b,hg,hgy,hi,encS,hP];rfl,?_⟩
   simp only [go_sem,qy])
  (⟨_,by simp only [go_sem,qy,reduceIte,c32L0b,ZG];rfl,by simp only [go_sem,qy]⟩)
 obtain ⟨fr',h1,h2,h3⟩:=L;have h1':Zg rE [0,1,5] c32L0b [(0,.isl false ea 1 (a.map encS)),(1,.isl false eb 1 (b.map encS)),(5,.int .i64 0)] []=_:=h1;cases e:Zu (fun i x=>match b[i]? with | some y=>Z3 x y | none=>false) 0 a with
 | true=>
  rw [e] at h1';simp only [go_sem,qy,qq,c32,c32L0,hne,h1',h2 e,if_true]
 | false=>
  rw [e] at h1';simp only [go_sem,qy,qq,reduceIte,c32,c32L0,hne,h1',h3 e,ZNI]
structure Endz where
 Id:Str
 Kind:Int
 Day:Int
def Endz.enc (e:Endz):AV:=.agg [.str e.Id,I e.Kind,I e.Day]
def ZEq (a b:Endz):Bool:=Z3 a.Id b.Id&&(a.Kind==b.Kind&&a.Day==b.Day)
def ZEb (s:Sta) (id:Str):Int:=bif Jx s then (bif decide (Zn s id < 0) then 10 else 0) else 1
theorem Zpq (s:Sta) (hs:StE s) (id:Str):pfn rE 65 [stA s,.str id]=some (I (ZEb s id)):=by
 have h1:=Z3i s hs;have h2:=find_ok s hs.sizes id;rw [Z5 (f:=65) rfl rfl];unfold ZEb;cases c:Jx s with
 | false=>rw [c] at h1;simp only [go_sem,qy,qq,qk,c65,h1,ZNE]
 | true=>
  rw [c] at h1;cases c2:decide (Zn s id < 0) with
  | true=>simp only [go_sem,qy,qq,qk,reduceIte,c65,h1,h2,c2,ZNA]
  | false=>simp only [go_sem,qy,qq,qk,reduceIte,c65,h1,h2,c2,ZNA]
end Go.AM
namespace Go.AM
open Go
def ftA (ea eb:Bool) (D:List Str) (E:List Endz):AV:=.agg [.isl false ea 1 (D.map encS),.isl false eb 3 (E.map Endz.enc)]
def HL (D D2:List Str) (E E2:List Endz):Bool:=(E.length==E2.length&&HK D D2)&&Zu (fun i x=>match E2[i]? with | some y=>ZEq x y | none=>false) 0 E
theorem ZF5 (ea eb ec ed:Bool) (D D2:List Str) (E E2:List Endz) (hD:D.length≤1000) (hE:E.length≤1000):pfn rE 14 [ftA ea eb D E,ftA ec ed D2 E2]=some (.bool (HL D D2 E E2)):=by
 have ht:=Z4L ea ec D D2 hD;rw [Z5 (f:=14) rfl rfl];unfold HL ftA;have hne:((E.length:Int) != (E2.length:Int)) = !(E.length==E2.length):=by
  cases h:E.length==E2.length with
  | true=>have:E.length=E2.length:=by simpa using h
          rw [this];simp
  | false=>have:E.length≠E2.length:=by simpa using h
           simp;omega
 cases c:E.length==E2.length with
 | false=>
  rw [c] at hne;simp only [go_sem,qy,qq,reduceIte,c14,hne,ZNE,ZNR]
 | true=>
 rw [c] at hne;cases ct:HK D D2 with
 | false=>
  rw [ct] at ht;simp only [go_sem,qy,qq,qk,reduceIte,c14,hne,ht,ZNE,ZNA,ZNR,ZOd]
 | true=>
 rw [ct] at ht;have hlen:E.length=E2.length:=by simpa using c
 have L:=QT (E:=rE) (live:=[2,3,5]) (b:=c14L0b) (h:=[]) E (fun i x=>match E2[i]? with | some y=>ZEq x y | none=>false) (fun i=>[(2,.iptr false [.isl false ea 1 (D.map encS),.isl false eb 3 (E.map Endz.enc)]),(3,.iptr false [.isl false ec 1 (D2.map encS),.isl false ed 3 (E2.map Endz.enc)]),(5,I i)]) 0 (fun fr=>get fr 4=.bot) (fun fr=>get fr 4=.bool false) (fun i=>rfl)
  (fun i x hx hP=>by
   have hg:=Z6 (f:=Endz.enc) hx;have hi:=Zh (Z7 hx);have hw:=Zx (n:=i) (by have:=Z7 hx;omega)
   obtain ⟨y,hy⟩:∃ y,E2[i]? = some y:=⟨_,ZND (by rw [←hlen];exact Z7 hx)⟩
   have hgy:=Z6 (f:=Endz.enc) hy;rw [hy] at hP;dsimp only at hP;unfold ZEq at hP;refine ⟨_,by simp only [go_sem,qy,qq,qk,reduceIte,c14L0b,hg,hgy,hi,hw,Endz.enc,hP,ZNA];rfl,?_⟩
   simp only [go_sem,qy])
  (fun i x hx hP=>by
   have hg:=Z6 (f:=Endz.enc) hx;have hi:=Zh (Z7 hx);obtain ⟨y,hy⟩:∃ y,E2[i]? = some y:=⟨_,ZND (by rw [←hlen];exact Z7 hx)⟩
   have hgy:=Z6 (f:=Endz.enc) hy;rw [hy] at hP;dsimp only at hP;unfold ZEq at hP;refine ⟨_,by simp only [go_sem,qy,qq,qk,reduceIte,c14L0b,hg,hgy,hi,Endz.enc,hP,ZNE];rfl,?_⟩
   simp only [go_sem,qy])
  (⟨_,by simp only [go_sem,qy,reduceIte,c14L0b,ZG];rfl,by simp only [go_sem,qy]⟩)
 obtain ⟨fr',h1,h2,h3⟩:=L;have h1':Zg rE [2,3,5] c14L0b [(2,.iptr false [.isl false ea 1 (D.map encS),.isl false eb 3 (E.map Endz.enc)]),(3,.iptr false [.isl false ec 1 (D2.map encS),.isl false ed 3 (E2.map Endz.enc)]),(5,.int .i64 0)] []=_:=h1;cases e:Zu (fun i x=>match E2[i]? with | some y=>ZEq x y | none=>false) 0 E with
 | true=>
  rw [e] at h1';simp only [go_sem,qy,qq,qk,c14,c14L0,hne,ht,h1',h2 e,if_true,ZNA,ZNH]
 | false=>
  rw [e] at h1';simp only [go_sem,qy,qq,qk,reduceIte,c14,c14L0,hne,ht,h1',h3 e,ZNI,ZNA,ZNH]
end Go.AM
namespace Go.AM
open Go
theorem ZF6:∀ (l m:List Str),l.Nodup→(∀ x∈l,x∈m)→l.length≤m.length
 | [],m,_,_=>ZNB _
 | a::r,m,h,hs=>by
  rw [ZOs] at h;obtain ⟨p,q,rfl⟩:=List.append_of_mem (hs a ZOu);have:=ZF6 r (p++q) h.2 (fun x hx=>by
   have h2:=hs x (ZOB _ hx);have hne:x≠a:=fun e=>h.1 (e▸hx)
   simp only [ZOm,ZOt,hne,false_or] at h2 ⊢;exact h2)
  simp only [ZNK,ZNL] at this ⊢;omega
theorem ZFX {s:Sta} (hn:(s.Doors.map (·.Id)).Nodup) {d e:Door} (hd:d∈s.Doors) (he:e∈s.Doors) (h:d.Id=e.Id):d=e:=by
 obtain ⟨i,hi⟩:=ZOO hd;obtain ⟨j,hj⟩:=ZOO he;have h1:=Zi1 (f:=fun x:Door=>x.Id) hn hi
 have h2:=Zi1 (f:=fun x:Door=>x.Id) hn hj
 rw [h] at h1;have:i=j:=by rw [h1] at h2;omega
 rw [this,hj] at hi;exact (Option.some.inj hi).symm
inductive Reach (s:Sta):Str→Str→Prop
 | refl (x:Str):Reach s x x
 | step (x y z:Str) (d:Door) (h:Reach s x y) (hd:d∈s.Doors) (hi:d.Id=y) (hz:z∈d.After.l):Reach s x z
theorem ZF7:∀ (l K L:List Str),∃ new,l.foldl wkS (K,L)=(K++new,L++new)∧(∀ x∈new,x∈l)∧(∀ x∈l,x∈K++new)∧(K.Nodup→(K++new).Nodup)
 | [],K,L=>⟨[],by simp⟩
 | a::l,K,L=>by
  rw [ZOM];cases c:K.any (Z3 a) with
  | true=>
   obtain ⟨new,h1,h2,h3,h4⟩:=ZF7 l K L;refine ⟨new,?_,fun x hx=>ZOB _ (h2 x hx),fun x hx=>?_,h4⟩
   ·rw [show wkS (K,L) a=(K,L) by unfold wkS;simp only [c,cond_true],h1]
   ·rcases ZOt.1 hx with rfl | hx
    ·exact ZOX _ (ZdP.1 c)
    ·exact h3 x hx
  | false=>
   obtain ⟨new,h1,h2,h3,h4⟩:=ZF7 l (K++[a]) (L++[a]);have ha:a ∉ K:=fun h=>by rw [ZdP.2 h] at c;cases c
   refine ⟨a::new,?_,fun x hx=>?_,fun x hx=>?_,fun hn=>?_⟩
   ·have e:∀ M:List Str,M++a::new=M++[a]++new:=fun M=>by simp
    rw [e,e,show wkS (K,L) a=(K++[a],L++[a]) by unfold wkS;simp only [c,cond_false],h1]
   ·rcases ZOt.1 hx with rfl | hx
    ·exact ZOu
    ·exact ZOB _ (h2 x hx)
   ·rcases ZOt.1 hx with rfl | hx
    ·simp
    ·have:=h3 x hx;simpa using this
   ·have e:K++a::new=K++[a]++new:=by simp
    rw [e];refine h4 ?_;rw [ZOl];exact ⟨hn,by simp,fun x hx y hy=>by simp only [ZOi] at hy;rw [hy];exact fun h=>ha (h▸hx)⟩
def ZEc (Q:List Door):List AV:=(Q.filter fun d=>decide (d.Ended < 0)).map fun d=>.str d.Id
def ZEd (Q:List Door):List AV:=(Q.filter fun d=>!decide (d.Ended < 0)&&d.After.l.isEmpty).map ZEB
theorem ZFY (d:Door) (Q:List Door):faD d (ZEc Q)=ZEc (Q++[d]):=by
 unfold faD ZEc;rw [ZOv,ZNJ];cases c:decide (d.Ended < 0)<;>simp [List.filter,c]
theorem ZFZ (d:Door) (Q:List Door):faE d (ZEd Q)=ZEd (Q++[d]):=by
 unfold faE ZEd;rw [ZOv,ZNJ];cases c:(!decide (d.Ended < 0)&&d.After.l.isEmpty)<;>simp only [List.filter,c,cond_true,cond_false,List.map,ZNC]
theorem ZHn {s:Sta} (hp:Prop' s) {d:Door} (hd:d∈s.Doors) {x:Str} (hx:x∈d.After.l):∃ e∈s.Doors,e.Id=x:=by
 obtain ⟨i,hi⟩:=ZOO hd;have h1:=((Zd0 s i d).1 (hp.dr i d hi)).2.1 x hx;have h2:decide (Zn s x < 0)=false:=decide_eq_false (by have:=of_decide_eq_false h1;omega)
 rw [ZEz] at h2;obtain ⟨j,e,_,h4,h5⟩:=ZcU h2;exact ⟨e,ZNW h4,h5⟩
theorem ZEF {s:Sta} (hp:Prop' s):(s.Doors.map (·.Id)).Nodup:=by
 have h:=hp.ids;unfold Qp at h;have h1:=(ZOl.1 h).2.1;have h2:=(ZOl.1 h1).2.1;have h3:=(ZOl.1 h2).2.1;exact (ZOl.1 h3).1
theorem ZG0 (s:Sta) (hp:Prop' s) (hs:StE s) (hN:s.Doors.length≤500) (id0:Str):∀ (n:Nat) (P:List Door) (L:List Str),s.Doors.length≤P.length+n→(∀ d∈P,d∈s.Doors)→(P.map (·.Id)++L).Nodup→(∀ x∈L,∃ d∈s.Doors,d.Id=x)→
 (∀ x∈P.map (·.Id)++L,Reach s id0 x)→(∀ d∈P,∀ y∈d.After.l,y∈P.map (·.Id)++L)→
 ∃ Q,Runs s (P.map (·.Id)++L) L (ZEc P) (ZEd P) (ZEc Q) (ZEd Q)∧(Q.map (·.Id)).Nodup∧(∀ d∈Q,d∈s.Doors)∧(∀ d∈Q,Reach s id0 d.Id)∧(∀ d∈Q,∀ y∈d.After.l,y∈Q.map (·.Id))∧(∀ x∈P.map (·.Id)++L,x∈Q.map (·.Id))
 | n,P,[],_,hP,hn,_,hR,hA=>by
  rw [ZNC] at hn hR hA ⊢;exact ⟨P,Runs.stop _ _ _,hn,hP,fun d hd=>hR _ (ZOA hd),hA,fun x hx=>hx⟩
 | n,P,x::r,hle,hP,hn,hL,hR,hA=>by
  have hsub:∀ y∈P.map (·.Id)++x::r,y∈s.Doors.map (·.Id):=fun y hy=>by
   rcases ZOm.1 hy with h | h
   ·obtain ⟨d,hd,rfl⟩:=ZO7.1 h;exact ZOA (hP d hd)
   ·obtain ⟨d,hd,rfl⟩:=hL y h;exact ZOA hd
  have hlen:=ZF6 _ _ hn hsub;simp only [ZNK,ZNy,ZNL] at hlen;obtain ⟨d,hd,hid⟩:=hL x ZOu;obtain ⟨k,hk⟩:=ZOO hd;have hf:pfn rE 54 [stA s,.str x]=some (I k):=by
   rw [find_ok s hs.sizes x,ZEz,←hid,Zi1 (ZEF hp) hk]
  cases n with
  | zero=>omega
  | succ n=>
   obtain ⟨new,w1,w2,w3,w4⟩:=ZF7 d.After.l (P.map (·.Id)++x::r) (x::r);have eK:(P++[d]).map (·.Id)++(r++new)=P.map (·.Id)++x::r++new:=by simp [hid]
   obtain ⟨Q,q1,q2,q3,q4,q5,q6⟩:=ZG0 s hp hs hN id0 n (P++[d]) (r++new) (by simp;omega)
    (fun e he=>by
     rcases ZOm.1 he with h | h
     ·exact hP e h
     ·rw [ZOi.1 h];exact hd)
    (by rw [eK];exact w4 hn)
    (fun y hy=>by
     rcases ZOm.1 hy with h | h
     ·exact hL y (ZOB _ h)
     ·exact ZHn hp hd (w2 y h))
    (fun y hy=>by
     rw [eK] at hy;rcases ZOm.1 hy with h | h
     ·exact hR y h
     ·exact Reach.step id0 x y d (hR x (by simp)) hd hid (w2 y h))
    (fun e he y hy=>by
     rw [eK];rcases ZOm.1 he with h | h
     ·exact ZOX _ (hA e h y hy)
     ·rw [ZOi.1 h] at hy;exact w3 y hy)
   refine ⟨Q,?_,q2,q3,q4,q5,fun y hy=>q6 y (by rw [eK];exact ZOX _ hy)⟩
   refine Runs.step _ x r _ _ _ _ k d hk hf ?_ ?_ ?_ ?_
   ·unfold ZEc;rw [ZNy];have:=ZOc (fun d:Door=>decide (d.Ended < 0)) P;omega
   ·unfold ZEd;rw [ZNy];have:=ZOc (fun d:Door=>!decide (d.Ended < 0)&&d.After.l.isEmpty) P;omega
   ·have:=(hs.doors d hd).after;simp only [ZNL];omega
   ·rw [w1,ZFY,ZFZ,←eK];exact q1
theorem ZHo (s:Sta) (hp:Prop' s) (hs:StE s) (hN:s.Doors.length≤500) (id:Str) (hid:decide (Zn s id < 0)=false):
 ∃ Q,Runs s [id] [id] [] [] (ZEc Q) (ZEd Q)∧(Q.map (·.Id)).Nodup∧(∀ d∈Q,d∈s.Doors)∧(∀ d∈Q,Reach s id d.Id)∧(∀ x,Reach s id x→x∈Q.map (·.Id)):=by
 rw [ZEz] at hid;obtain ⟨j,e,_,h4,h5⟩:=ZcU hid;obtain ⟨Q,q1,q2,q3,q4,q5,q6⟩:=ZG0 s hp hs hN id s.Doors.length [] [id] (by simp) (fun d hd=>by cases hd) (by simp) (fun x hx=>⟨e,ZNW h4,by rw [ZOi.1 hx];exact h5⟩)
  (fun x hx=>by rw [ZOi.1 hx];exact Reach.refl id) (fun d hd=>by cases hd)
 refine ⟨Q,q1,q2,q3,q4,fun x hx=>?_⟩
 clear hid;induction hx with
 | refl=>exact q6 id (by simp)
 | step y z d h hd hi hz ih=>
  obtain ⟨d',hd',he⟩:=ZO7.1 ih;rw [←ZFX (ZEF hp) (q3 d' hd') hd (he.trans hi.symm)] at hz;exact q5 d' hd' z hz
end Go.AM
namespace Go.AM
open Go
def toL (x:Str):List UInt8:=x.data.toList
def ofL (l:List UInt8):Str:=⟨l.toArray⟩
theorem ZER (x:Str):ofL (toL x)=x:=by unfold ofL toL;simp
theorem ZG1 (l:List UInt8):toL (ofL l)=l:=by unfold ofL toL;simp
theorem ZHp {x y:Str} (h:toL x=toL y):x=y:=by rw [←ZER x,h,ZER]
def ZEi (l:List Str):List Str:=(WD (l.map toL)).map ofL
theorem ZHq (l:List Str):Yk (l.map encS)=(ZEi l).map encS:=by
 have e:l.map encS=(l.map toL).map Qd:=by
  rw [ZO8];exact ZOU fun x _=>congrArg AV.str (ZER x).symm
 rw [e,D4];unfold ZEi;rw [ZO8];rfl
theorem ZES (l:List Str):(ZEi l).Perm l:=by
 have h:=(RS (l.map toL)).map ofL;rw [ZO8] at h;have e:l.map (ofL ∘ toL)=l:=by
  conv=>rhs;rw [←List.map_id l]
  exact ZOU fun x _=>ZER x
 rwa [e] at h
def ltS (a b:Str):Prop:=toL a < toL b
theorem ZHr (l:List Str) (hn:l.Nodup):(ZEi l).Pairwise ltS:=by
 have h1:=D8 (l.map toL);have h2:(ZEi l).Nodup:=(ZES l).nodup_iff.2 hn;unfold ZEi at h2 ⊢;rw [ZOY];rw [List.nodup_iff_pairwise_ne,ZOY] at h2;refine (h1.and h2).imp ?_;intro a b hab;unfold ltS;rw [ZG1,ZG1];refine Decidable.byContradiction fun h=>hab.2 ?_
 rw [List.le_antisymm (of_decide_eq_true hab.1) (List.not_lt.1 h)]
theorem ZHs (a b:Str):lexB (ZE4 a) (ZE4 b)=true↔ltS a b:=by
 unfold ZE4 ltS toL;rw [ZEM,decide_eq_true_iff]
theorem ZHt {a b:Str} (h:ZE4 a=ZE4 b):a=b:=by
 unfold ZE4 at h;apply ZHp;unfold toL;have:∀ x y:List UInt8,(x.map fun b=>(b.toNat:Int))=(y.map fun b=>(b.toNat:Int))→x=y:=by
  intro x;induction x with
  | nil=>intro y h;cases y with
   | nil=>rfl
   | cons=>simp at h
  | cons a r ih=>intro y h;cases y with
   | nil=>simp at h
   | cons c t=>
    simp only [ZNM,List.cons.injEq] at h;have hc:a=c:=UInt8.toNat_inj.1 (by omega)
    rw [ih t h.2,hc]
 exact this _ _ h
def gK (e:Endz):List Int×AV:=(ZE4 e.Id,e.enc)
def ZEy (x:Endz):List Endz→List Endz
 | []=>[x]
 | y::r=>bif lexB (ZE4 x.Id) (ZE4 y.Id) then x::y::r else y::ZEy x r
def ZEj:List Endz→List Endz
 | []=>[]
 | x::r=>ZEy x (ZEj r)
theorem ZG2 (x:Endz):∀ l:List Endz,ZvI (gK x) (l.map gK)=(ZEy x l).map gK
 | []=>rfl
 | y::r=>by
  rw [ZNM];unfold ZvI ZEy;rw [show lexB (gK x).1 (gK y).1=lexB (ZE4 x.Id) (ZE4 y.Id) from rfl]
  cases lexB (ZE4 x.Id) (ZE4 y.Id) with
  | true=>rfl
  | false=>simp only [cond_false,ZG2 x r,ZNM]
theorem ZF8:∀ l:List Endz,ZvN (l.map gK)=(ZEj l).map gK
 | []=>rfl
 | x::r=>by
  rw [ZNM];unfold ZvN ZEj;rw [ZF8 r,ZG2]
theorem ZG3 (x:Endz):∀ l,(ZEy x l).Perm (x::l)
 | []=>.refl _
 | y::r=>by
  unfold ZEy;cases lexB (ZE4 x.Id) (ZE4 y.Id) with
  | true=>exact .refl _
  | false=>exact ((ZG3 x r).cons y).trans (.swap x y r)
theorem ZF9:∀ l,(ZEj l).Perm l
 | []=>.refl _
 | x::r=>(ZG3 x (ZEj r)).trans ((ZF9 r).cons x)
theorem ZG4:∀ l:List Endz,keysOf ZEf (l.map Endz.enc)=some (l.map gK)
 | []=>rfl
 | x::r=>by
  rw [ZNM,ZNM];unfold keysOf;rw [ZG4 r];rfl
theorem ZFa:∀ l:List Endz,(l.map (·.Id)).Nodup→ZvJ (l.map gK)=true
 | [],_=>rfl
 | x::r,h=>by
  rw [ZNM,ZOs] at h;rw [ZNM];unfold ZvJ;rw [ZFa r h.2,ZNU,ZNO];intro y hy;obtain ⟨z,hz,rfl⟩:=ZO7.1 hy;have:((gK x).1==(gK z).1)=false:=by
   rw [beq_eq_false_iff_ne];intro e;exact h.1 (ZO7.2 ⟨z,hz,(ZHt e).symm⟩)
  rw [this];rfl
theorem ZHu (l:List Endz) (h:(l.map (·.Id)).Nodup):(ZEj l).Pairwise fun a b=>ltS a.Id b.Id:=by
 have h1:=ZwI (l.map gK) (ZFa l h);rw [ZF8,ZOY] at h1;exact h1.imp fun {a b} hab=>(ZHs a.Id b.Id).1 hab
theorem ZET:∀ l:List Str,Z4 (l.map encS)=true
 | []=>rfl
 | x::r=>by rw [ZNM];unfold Z4;rw [ZET r];rfl
theorem ZEU:∀ l:List Endz,Z4 (l.map Endz.enc)=true
 | []=>rfl
 | x::r=>by rw [ZNM];unfold Z4;rw [ZEU r];rfl
theorem ZFb (l:List Str) (hl:l.length≤1000):ZE7 69 [ZEa 69] 1 (l.map encS)=some ((ZEi l).map encS):=by
 unfold ZE7 ZEa;have h1:(l.map encS).all WB=true:=by rw [ZNO];intro x hx;obtain ⟨y,_,rfl⟩:=ZO7.1 hx;rfl
 have h2:Nat.ble (l.map encS).length 1000000=true:=ZO3 (by rw [ZNy];omega)
 simp only [h1,h2,ZHq];rfl
theorem ZG5 (l:List Endz) (hl:l.length≤1000) (hn:(l.map (·.Id)).Nodup):ZEe 71 3 ZEf [ZEa 71] 3 (l.map Endz.enc)=some ((ZEj l).map Endz.enc):=by
 unfold ZEe ZEa;have h1:(l.map Endz.enc).all Zwl=true:=by rw [ZNO];intro x hx;obtain ⟨y,_,rfl⟩:=ZO7.1 hx;rfl
 have h2:Nat.ble (l.map Endz.enc).length 1000000=true:=ZO3 (by rw [ZNy];omega)
 have h3:(l.map Endz.enc).all (fits 3)=true:=by rw [ZNO];intro x hx;obtain ⟨y,_,rfl⟩:=ZO7.1 hx;rfl
 simp only [ZG4,h1,h2,h3,ZEU,ZFa l hn,ZF8,ZO8];rfl
def ZEk (d:Door):Endz:=⟨d.Id,d.Why,d.Ended⟩
structure IsFate (s:Sta) (id:Str) (D:List Str) (E:List Endz):Prop where
 dn:D.Nodup
 ds:D.Pairwise ltS
 es:E.Pairwise fun a b=>ltS a.Id b.Id
 dm:∀ x,x∈D↔∃ d∈s.Doors,d.Id=x∧d.Ended < 0∧Reach s id d.Id
 em:∀ e,e∈E↔∃ d∈s.Doors,e=ZEk d∧¬ d.Ended < 0∧d.After.l=[]∧Reach s id d.Id
 dl:D.length≤500
 el:E.length≤500
theorem ZHv (s:Sta) (hp:Jx s=true) (hs:StE s) (hN:s.Doors.length≤500) (id:Str) (hid:decide (Zn s id < 0)=false):∃ D E,pfn rE 31 [stA s,.str id]=some (.tup [ftA false false D E,I 0])∧IsFate s id D E:=by
 have hp':=((Zdb s).1 hp).1;obtain ⟨Q,q1,q2,q3,q4,q5⟩:=ZHo s hp' hs hN id hid;have hQ:Q.length≤500:=by
  have:=ZF6 (Q.map (·.Id)) (s.Doors.map (·.Id)) q2 (fun x hx=>by obtain ⟨d,hd,rfl⟩:=ZO7.1 hx;exact ZOA (q3 d hd))
  simp only [ZNy] at this;omega
 have hin:∀ d,d∈Q↔d∈s.Doors∧Reach s id d.Id:=fun d=>⟨fun h=>⟨q3 d h,q4 d h⟩,fun ⟨h1,h2⟩=>by
  obtain ⟨d',h3,h4⟩:=ZO7.1 (q5 _ h2)
  rwa [←ZFX (ZEF hp') (q3 d' h3) h1 h4]⟩
 have eD:ZEc Q=((Q.filter fun d=>decide (d.Ended < 0)).map (·.Id)).map encS:=by unfold ZEc;rw [ZO8];rfl
 have eE:ZEd Q=((Q.filter fun d=>!decide (d.Ended < 0)&&d.After.l.isEmpty).map ZEk).map Endz.enc:=by unfold ZEd;rw [ZO8];rfl
 have nD:((Q.filter fun d=>decide (d.Ended < 0)).map (·.Id)).Nodup:=q2.sublist ((ZOZ).map _)
 have nE:(((Q.filter fun d=>!decide (d.Ended < 0)&&d.After.l.isEmpty).map ZEk).map (·.Id)).Nodup:=by
  rw [ZO8];exact q2.sublist ((ZOZ).map _)
 have lD:((Q.filter fun d=>decide (d.Ended < 0)).map (·.Id)).length≤500:=by rw [ZNy];have:=ZOc (fun d:Door=>decide (d.Ended < 0)) Q;omega
 have lE:((Q.filter fun d=>!decide (d.Ended < 0)&&d.After.l.isEmpty).map ZEk).length≤500:=by rw [ZNy];have:=ZOc (fun d:Door=>!decide (d.Ended < 0)&&d.After.l.isEmpty) Q;omega
 have mD:∀ x,x∈((Q.filter fun d=>decide (d.Ended < 0)).map (·.Id))↔∃ d∈s.Doors,d.Id=x∧d.Ended < 0∧Reach s id d.Id:=fun x=>by
  rw [ZO7];constructor
  ·rintro ⟨d,hd,rfl⟩;rw [ZOC] at hd;exact ⟨d,q3 d hd.1,rfl,of_decide_eq_true hd.2,q4 d hd.1⟩
  ·rintro ⟨d,h1,h2,h3,h4⟩;exact ⟨d,ZOC.2 ⟨(hin d).2 ⟨h1,h4⟩,decide_eq_true h3⟩,h2⟩
 have mE:∀ e,e∈((Q.filter fun d=>!decide (d.Ended < 0)&&d.After.l.isEmpty).map ZEk)↔∃ d∈s.Doors,e=ZEk d∧¬ d.Ended < 0∧d.After.l=[]∧Reach s id d.Id:=fun e=>by
  rw [ZO7];constructor
  ·rintro ⟨d,hd,rfl⟩;simp only [ZOC,ZNz,ZNX,decide_eq_false_iff_not,ZOD] at hd;exact ⟨d,q3 d hd.1,rfl,hd.2.1,hd.2.2,q4 d hd.1⟩
  ·rintro ⟨d,h1,h2,h3,h4,h5⟩;refine ⟨d,?_,h2.symm⟩;simp only [ZOC,ZNz,ZNX,decide_eq_false_iff_not,ZOD];exact ⟨(hin d).2 ⟨h1,h5⟩,h3,h4⟩
 rw [eD,eE] at q1;generalize (Q.filter fun d=>decide (d.Ended < 0)).map (·.Id)=D0 at *
 generalize (Q.filter fun d=>!decide (d.Ended < 0)&&d.After.l.isEmpty).map ZEk=E0 at *
 have hc:pfn rE 65 [stA s,.str id]=some (I 0):=by
  rw [Zpq s hs id];unfold ZEb;rw [hp,hid];rfl
 have pD:=ZES D0;have pE:=ZF9 E0;refine ⟨ZEi D0,ZEj E0,?_,pD.nodup_iff.2 nD,ZHr D0 nD,ZHu E0 nE,fun x=>by rw [pD.mem_iff,mD],fun e=>by rw [pE.mem_iff,mE],by rw [pD.length_eq];exact lD,by rw [pE.length_eq];exact lE⟩
 exact ZFW s id _ _ _ _ hc q1 (ZFb D0 (by omega)) (ZG5 E0 (by omega) nE) (by simp [pD.length_eq]) (by simp [pE.length_eq]) (ZET _) (ZEU _)
end Go.AM
namespace Go.AM
open Go
def lkV (p:Pt):AV:=.iptr false [I p.X,I p.Y]
def ZLc (p:Pt) (t:AV):Fr:=[(5,lkV p),(6,.isl false false 1 []),(7,.bool false),(8,I 0),(9,.ptr 1 0 0 1),(10,.ptr 2 0 0 1),(28,t)]
def lkH (st:LoopState) (p:Pt) (t:AV) (q:List Str×Bool):Hp:=[.row 1 (q.1.map encS),.row 1 [.sl 0 q.1.length 0 q.1.length false],.row 1 [.bool q.2],.loop st .normal (ZLc p t) [29] c175R0a c175R0b]
def lkS (p:Pt) (q:List Str×Bool) (x:Region):List Str×Bool:=(bif decide (ZoY x.Ring.l p ≥ 0) then q.1++[x.Id] else q.1,q.2||decide (ZoY x.Ring.l p > 0))
theorem ZMe (p:Pt) (t:AV) (ht:∀ n,bel n t=true) (q:List Str×Bool) (hq:q.1.length≤1000000) (x:Region) (hr:x.Ring.l.length≤1000000) (o:AObj) (ho:∀ n,Zj n o=true):
 U4 rE 3 [arA x] (lkH .ready p t q++[o])=some (.bool true,lkH .ready p t (lkS p q x)++[o,.row 3 [arA x]]):=by
 have hW:=Zqn x.Ring.l x.Ring.ex hr p;have hbS:∀ n (K:List Str),Zd n (K.map encS)=true:=fun n K=>ZN _ (Zw (fun t=>rfl) K)
 have ha:=fun (r1 r2 r3 r4 r5:AObj)=>XC (h:=[.row 1 (q.1.map encS),r1,r2,r3,r4,r5]) (fz:=false) (b:=0) (g:=q.1.length) (sz:=1) (es:=q.1.map encS) (bw:=false) (ex:=false) (ys:=[.str x.Id]) (bytes:=16) (by unfold rowAt;simp) rfl (by rfl) (by omega) (by omega) (by simp;omega)
 have h:=Ss (E:=rE) (b:=3) (args:=[arA x]) (h:=lkH .ready p t q++[o]) (fr:=ZLc p t) (ps:=[29]) (assign:=c175R0a) (body:=c175R0b)
  (fr0:=(29,arA x)::ZLc p t) rfl rfl (by simp only [go_sem,qy,qq,qx,qz,qv,qk,reduceIte,c175R0a,lkH,ZLc,lkV,arA]<;>rfl) (h1:=lkH .ready p t q++[o,.row 3 [arA x]]) (by rfl)
  (e:=.normal) (fr2:=[]) (h2:=lkH .busy p t (lkS p q x)++[o,.row 3 [arA x]])
  (by
   show Zb rE c175R0b [(11,.ptr 5 0 0 1),(29,arA x),(5,lkV p),(6,.isl false false 1 []),(7,.bool false),(8,I 0),(9,.ptr 1 0 0 1),(10,.ptr 2 0 0 1),(28,t)]
    [.row 1 (q.1.map encS),.row 1 [.sl 0 q.1.length 0 q.1.length false],.row 1 [.bool q.2],.loop .busy .normal (ZLc p t) [29] c175R0a c175R0b,o,.row 3 [arA x]]=_
   have hlp:∀ n,3≤n→Zj n (.loop .busy .normal (ZLc p t) [29] c175R0a c175R0b)=true:=fun n hn=>by
    have d1:decide (1 < n)=true:=decide_eq_true (by omega)
    have d2:decide (2 < n)=true:=decide_eq_true (by omega)
    simp only [go_sem,qy,qq,qx,qz,qv,qk,reduceIte,ZLc,lkV,ht,d1,d2]
   have hl6:=hlp 6 (by omega)
   unfold lkS lkH;generalize AObj.loop .busy .normal (ZLc p t) [29] c175R0a c175R0b=lo at hl6 ⊢;cases c:decide (ZoY x.Ring.l p ≥ 0) with
   | true=>
    have hap:=ha (.row 1 [.sl 0 q.1.length 0 q.1.length false]) (.row 1 [.bool q.2]) lo o (.row 3 [arA x]);simp only [arA] at hap;cases c2:q.2 with
    | true=>
     rw [c2] at hap;simp only [go_sem,qy,qq,qx,qz,qv,qk,reduceIte,c175R0b,lkV,arA,hW,c,hap,hbS,ho,hl6,ZNK,ZOa,ZNJ,ZNV,cond_true,encS]
    | false=>
     rw [c2] at hap;simp only [go_sem,qy,qq,qx,qz,qv,qk,reduceIte,c175R0b,lkV,arA,hW,c,hap,hbS,ho,hl6,ZNK,ZOa,ZNJ,ZOq,cond_true,encS]
   | false=>
    cases c2:q.2 with
    | true=>simp only [go_sem,qy,qq,qx,qz,qv,qk,reduceIte,c175R0b,lkV,arA,hW,c,hbS,ho,hl6,ZNV,cond_false]
    | false=>simp only [go_sem,qy,qq,qx,qz,qv,qk,reduceIte,c175R0b,lkV,arA,hW,c,hbS,ho,hl6,ZOq,cond_false]) (by rfl)
 exact h
end Go.AM
namespace Go.AM
open Go
def lkT (k:Int) (p:Pt) (L:List Region):List Str×Bool:=(L.filter fun x=>x.Kind==k).foldl (lkS p) ([],false)
theorem ZMf {k:Int} {p:Pt} {L:List Region} {i:Nat} {x:Region} (h:L[i]? = some x):lkT k p (L.take (i+1))=bif x.Kind==k then lkS p (lkT k p (L.take i)) x else lkT k p (L.take i):=by
 have hi:=ZO4.1 h;unfold lkT;rw [ZOr hi.1,ZOv,ZOx,hi.2];cases c:x.Kind==k<;>simp [List.filter,c]
theorem ZLX (p:Pt):∀ (l:List Region) (q:List Str×Bool),(l.foldl (lkS p) q).1.length≤q.1.length+l.length
 | [],q=>ZNY _
 | x::l,q=>by
  have:=ZLX p l (lkS p q x);have h2:(lkS p q x).1.length≤q.1.length+1:=by
   unfold lkS;dsimp only;cases decide (ZoY x.Ring.l p ≥ 0) with
   | true=>rw [cond_true,ZNK];exact ZNY _
   | false=>rw [cond_false];omega
  rw [ZOM,ZNL];omega
theorem ZLY (k:Int) (p:Pt) (L:List Region):(lkT k p L).1.length≤L.length:=by
 unfold lkT;have:=ZLX p (L.filter fun x=>x.Kind==k) ([],false)
 have h2:=ZOc (fun x:Region=>x.Kind==k) L
 simp only [ZNQ] at this;omega
def lkC (k:Int) (L:List Region):AV:=.clo (.func 254) [] [.iptr false [.isl false false 3 (L.map arA)],.iptr false [I k]]
theorem ZMg (k:Int) (p:Pt) (L:List Region) (hl:L.length≤1000) (hr:∀ x∈L,x.Ring.l.length≤1000000):
 ∃ fr',Zg rE [0,2,6,7,8] c254L0b [(0,.yld 3),(2,.iptr false [I k]),(6,.isl false false 3 (L.map arA)),(7,I L.length),(8,.int .i64 0)] (lkH .ready p (lkC k L) ([],false))=some (.exit 0,fr',lkH .ready p (lkC k L) (lkT k p L)):=by
 have ht:∀ n,bel n (lkC k L)=true:=fun n=>rfl
 have hb4:Zd 4 (frV (ZLc p (lkC k L)))=true:=rfl;have hbS:∀ n (K:List Str),Zd n (K.map encS)=true:=fun n K=>ZN _ (Zw (fun t=>rfl) K)
 have Q:=Y8 (E:=rE) (live:=[0,2,6,7,8]) (b:=c254L0b) L.length (fun i=>[(0,.yld 3),(2,.iptr false [I k]),(6,.isl false false 3 (L.map arA)),(7,I L.length),(8,I i)])
  (fun i=>lkH .ready p (lkC k L) (lkT k p (L.take i))) (fun i=>rfl)
  (fun i hi=>by
   obtain ⟨x,hx⟩:∃ x,L[i]? = some x:=⟨_,ZND hi⟩;have hg:=Z6 (f:=arA) hx;have hi':=Zh hi;have hw:=Zx (n:=i) (by omega)
   have hs:=ZMf (k:=k) (p:=p) hx;have hq:(lkT k p (L.take i)).1.length≤1000000:=by
    have:=ZLY k p (L.take i);rw [ZO9] at this;omega
   have hy:=ZMe p (lkC k L) ht (lkT k p (L.take i)) hq x (hr x (ZNW hx)) (.row 3 [arA x]) (fun n=>rfl)
   rw [hs];generalize lkT k p (L.take i)=q at *;cases c:x.Kind==k with
   | true=>
    rw [cond_true];generalize lkS p q x=q2 at *;unfold lkH at hy ⊢;have hlo:Zj 4 (.loop .ready .normal (ZLc p (lkC k L)) [29] c175R0a c175R0b)=true:=hb4;have hlo5:Zj 5 (.loop .ready .normal (ZLc p (lkC k L)) [29] c175R0a c175R0b)=true:=rfl;generalize AObj.loop .ready .normal (ZLc p (lkC k L)) [29] c175R0a c175R0b=lo at *;simp only [arA,ZNF,ZNG] at hy hg;refine ⟨_,by simp only [go_sem,qy,qq,qx,qz,qv,qk,reduceIte,c254L0b,S3,hg,arA,hi',hw,c,hy,hbS,hlo,hlo5];rfl,?_⟩
    simp only [go_sem,qy,qq,qx,qz,qv,qk,reduceIte]
   | false=>
    rw [cond_false];unfold lkH;have hlo:Zj 4 (.loop .ready .normal (ZLc p (lkC k L)) [29] c175R0a c175R0b)=true:=hb4;generalize AObj.loop .ready .normal (ZLc p (lkC k L)) [29] c175R0a c175R0b=lo at *;simp only [arA] at hg;refine ⟨_,by simp only [go_sem,qy,qq,qx,qz,qv,qk,reduceIte,c254L0b,hg,arA,hi',hw,c,hbS,hlo];rfl,?_⟩
    simp only [go_sem,qy,qq,qx,qz,qv,qk,reduceIte])
  (e:=.exit 0) (by simp only [go_sem,qy,qq,qx,qz,qv,qk,reduceIte,lkH,c254L0b,ZG];rfl) (by simp)
 rw [ZNP] at Q;exact ⟨_,Q⟩
end Go.AM
namespace Go.AM
open Go
theorem ZMh (k:Int) (p:Pt) (L:List Region) (hl:L.length≤1000) (hr:∀ x∈L,x.Ring.l.length≤1000000):
 rf rE (lkC k L) [29] c175R0a c175R0b (ZLc p (lkC k L)) [.row 1 [],.row 1 [.sl 0 0 0 0 false],.row 1 [.bool false]] =
  some (.normal,ZLc p (lkC k L),[.row 1 ((lkT k p L).1.map encS),.row 1 [.sl 0 (lkT k p L).1.length 0 (lkT k p L).1.length false],.row 1 [.bool (lkT k p L).2],.loop .exhausted .normal (ZLc p (lkC k L)) [29] c175R0a c175R0b]):=by
 have hb4:Zd 4 (frV (ZLc p (lkC k L)))=true:=rfl;have hbS:∀ n (K:List Str),Zd n (K.map encS)=true:=fun n K=>ZN _ (Zw (fun t=>rfl) K)
 obtain ⟨fr',h1⟩:=ZMg k p L hl hr;have hlo:Zj 4 (.loop .ready .normal (ZLc p (lkC k L)) [29] c175R0a c175R0b)=true:=hb4;unfold lkH at h1;simp only [ZNT,ZNQ] at h1;generalize lkT k p L=q at *;unfold lkC at h1 ⊢;rw [Z1k (c:=c254) rfl];unfold lkC at hlo;simp only [go_sem,qy,qq,qx,qz,qv,qk,reduceIte,c254,c254L0,ZNy,h1,hbS,hlo];rfl
theorem look_ok (L:List Region) (hl:L.length≤400) (hn:(L.map (·.Id)).Nodup) (hv:∀ x∈L,ZZ x.Id=true∧ZD x.Kind 1 3=true∧Vh x.Ring.l=true∧x.Ring.l.length≤1000000) (k:Int) (hk:ZD k 1 3=true) (p:Pt):
 pfn rE 175 [.isl false false 3 (L.map arA),I k,.agg [I p.X,I p.Y]]=some (.tup (bif gOn p then [.isl false false 1 ((ZEi (lkT k p L).1).map encS),.bool (lkT k p L).2,I 0] else [.isl false false 1 [],.bool false,I 1])):=by
 have h1:=Zib L hl hn hv;have h2:=Zi9 k;have h3:=W8 p;rw [hk] at h2;rw [Z5 (f:=175) rfl rfl];cases c:gOn p with
 | false=>
  rw [c] at h3;simp only [go_sem,qy,qq,qx,qz,qv,qk,reduceIte,c175,h1,h2,h3,ZNA,ZNE,cond_false]
 | true=>
  rw [c] at h3;have hr:=ZMh k p L (by omega) (fun x hx=>(hv x hx).2.2.2)
  have hlen:=ZLY k p L;generalize lkT k p L=q at *;have hbS:∀ n (K:List Str),Zd n (K.map encS)=true:=fun n K=>ZN _ (Zw (fun t=>rfl) K)
  have hcS:∀ (K:List Str),Z4 (K.map encS)=true:=fun K=>Zw (fun t=>rfl) K
  have hof:∀ h,fnV rE 208 [.isl false false 3 (L.map arA),I k] h=some (lkC k L,h):=fun h=>by
   have hcl:Z4 (L.map arA)=true:=Zw (fun _=>rfl) _
   rw [Q6 (f:=208) rfl rfl];simp only [go_sem,qy,qq,qx,qz,qv,qk,reduceIte,c208,lkC,GH]
  have hso:∀ r1 r2,fnV rE 116 [.sl 0 q.1.length 0 q.1.length false] [.row 1 (q.1.map encS),r1,r2]=some (.tup [],[.row 1 ((ZEi q.1).map encS),r1,r2]):=fun r1 r2=>by
   have hstr:(q.1.map encS).all WB=true:=by rw [ZOy,ZNO];intro x _;rfl
   have hble:Nat.ble q.1.length 1000000=true:=ZO3 (by omega)
   rw [V8 (s:=J7) rfl];simp only [J7,ZOe,ZNy,beq_self_eq_true,hstr,hble,ZNU,cond_true,GM,ZHq]
  have hsl:(ZEi q.1).length=q.1.length:=(ZES q.1).length_eq;simp only [ZLc,lkV,lkC] at hr;have htk:((ZEi q.1).map encS).take q.1.length=(ZEi q.1).map encS:=ZNN (by rw [ZNy,hsl];exact ZNY _)
  simp only [go_sem,qy,qq,qx,qz,qv,qk,reduceIte,put,c175,h1,h2,h3,hof,Sr,hr,hso,hsl,hbS,hcS,htk,lkC,beq_self_eq_true,ZO5,ZNA,cond_true]
end Go.AM
namespace Go.AM
open Go
def ZLf (k:Int) (p:Pt) (L:List Region):Str×Int:=
 bif gOn p then
  match ZEi (lkT k p L).1 with
  | []=>(emp,10)
  | x::r=>bif !r.isEmpty&&(lkT k p L).2 then (emp,8) else (x,0)
 else (emp,1)
structure RgOk (L:List Region):Prop where
 len:L.length≤400
 ids:(L.map (·.Id)).Nodup
 ok:∀ x∈L,ZZ x.Id=true∧ZD x.Kind 1 3=true∧Vh x.Ring.l=true∧x.Ring.l.length≤1000000
theorem ZMi (L:List Region) (hL:RgOk L) (k:Int) (hk:ZD k 1 3=true) (p:Pt):pfn rE 114 [.isl false false 3 (L.map arA),I k,.agg [I p.X,I p.Y]]=some (.tup [.str (ZLf k p L).1,I (ZLf k p L).2]):=by
 have h:=look_ok L hL.len hL.ids hL.ok k hk p;unfold ZLf;rw [Z5 (f:=114) rfl rfl];cases c:gOn p with
 | false=>
  rw [c,cond_false] at h;have z1:((1:Int) != 0)=true:=rfl;simp only [go_sem,qy,qq,qx,qz,qv,qk,reduceIte,c114,h,z1,cond_false]
 | true=>
  rw [c,cond_true] at h;have z0:((0:Int) != 0)=false:=rfl;rw [cond_true];cases hs:ZEi (lkT k p L).1 with
  | nil=>
   rw [hs] at h;have z2:(((0:Nat):Int)==0)=true:=rfl;simp only [ZNT] at h;simp only [go_sem,qy,qq,qx,qz,qv,qk,reduceIte,c114,h,z0,z2,ZNQ]
  | cons x r=>
   rw [hs] at h;have z3:(((r.length+1:Nat):Int)==0)=false:=by rw [beq_eq_false_iff_ne];omega
   have hix:ixG (.str x::r.map encS) 0=some (.str x):=rfl;simp only [ZNM,encS] at h;cases r with
   | nil=>
    have z4:decide (((0+1:Nat):Int) > 1)=false:=rfl;simp only [ZNQ] at z3;simp only [ZNT] at h hix;simp only [go_sem,qy,qq,qx,qz,qv,qk,reduceIte,c114,h,z0,z3,z4,hix,ZNL,ZNQ,List.isEmpty_nil,ZNA,ZNR,cond_false]
   | cons y r=>
    have z4:decide (((r.length+1+1:Nat):Int) > 1)=true:=decide_eq_true (by omega)
    simp only [ZNL] at z3;simp only [ZNM,encS] at h hix;cases c2:(lkT k p L).2 with
    | true=>
     rw [c2] at h;simp only [go_sem,qy,qq,qx,qz,qv,qk,reduceIte,c114,h,z0,z3,z4,ZNL,ZNy,ZOL,ZNE,ZNU,cond_true]
    | false=>
     rw [c2] at h;simp only [go_sem,qy,qq,qx,qz,qv,qk,reduceIte,c114,h,z0,z3,z4,hix,ZNL,ZNy,ZOL,ZNE,ZOd,cond_false]
structure Plc where
 Door:Str
 Street:Str
 Code:Str
 District:Str
 City:Str
 Number:HN
 Point:Pt
def Plc.enc (a:Plc):AV:=.agg [.str a.Door,.str a.Street,.str a.Code,.str a.District,.str a.City,I a.Number.N,.str a.Number.Letter,I a.Number.Num,I a.Number.Den,I a.Point.X,I a.Point.Y]
def zP:Plc:=⟨emp,emp,emp,emp,emp,⟨0,emp,0,0⟩,⟨0,0⟩⟩
def ZLs (s:Sta) (d:Door):Plc:=⟨d.Id,d.Street,(ZLf 3 d.Point (lvR s.Regions)).1,(ZLf 2 d.Point (lvR s.Regions)).1,(ZLf 1 d.Point (lvR s.Regions)).1,d.Number,d.Point⟩
def dI (d:Door):AV:=match d.enc with | .agg cs=>.iptr false cs | v=>v
theorem ZLt (L:List Region) (hL:RgOk L) (k:Int) (hk:ZD k 1 3=true) (d:Door):pfn rE 113 [I k,.iptr true [.isl false false 3 (L.map arA)],dI d]=some (.str (ZLf k d.Point L).1):=by
 have h:=ZMi L hL k hk d.Point;have hc:Z4 (L.map arA)=true:=Zw (fun _=>rfl) _
 rw [Z5 (f:=113) rfl rfl];simp only [go_sem,qy,qq,qx,qz,qv,qk,reduceIte,c113,dI,Door.enc,NL.enc,h]
theorem ZMj (s:Sta) (hs:StS s) (hL:RgOk (lvR s.Regions)) (d:Door):pfn rE 55 [stA s,d.enc]=some (ZLs s d).enc:=by
 have h0:=Zi3 s hs;have h3:=ZLt (lvR s.Regions) hL 3 rfl d;have h2:=ZLt (lvR s.Regions) hL 2 rfl d;have h1:=ZLt (lvR s.Regions) hL 1 rfl d;simp only [stA] at h0;unfold ZLs Plc.enc;generalize (ZLf 3 d.Point (lvR s.Regions)).1=x3 at *;generalize (ZLf 2 d.Point (lvR s.Regions)).1=x2 at *;generalize (ZLf 1 d.Point (lvR s.Regions)).1=x1 at *;have hc:Z4 ((lvR s.Regions).map arA)=true:=Zw (fun _=>rfl) _
 generalize hM:(lvR s.Regions).map arA=M at *;simp only [dI,Door.enc,NL.enc] at h3 h2 h1;rw [Z5 (f:=55) rfl rfl];simp only [go_sem,qy,qq,qx,qz,qv,qk,reduceIte,c55,stA,Door.enc,NL.enc,h0,h1,h2,h3,hc]
theorem ZMk {s:Sta} (hp:Prop' s) (hs:StE s) (hl:s.Regions.length≤400):RgOk (lvR s.Regions):=
 ⟨Nat.le_trans (Zi0 _) hl,by
  have h1:=hp.ids;unfold Qp at h1;exact (ZOl.1 h1).1.sublist (ZOZ.map _),fun x hx=>by
  have hm:x∈s.Regions:=(ZOC.1 hx).1;have h1:=hp.rg x hm;unfold Vo at h1;rw [Zdu] at h1;simp only [ZNz] at h1;exact ⟨h1.2.2.1,h1.2.2.2.1,h1.2.2.2.2,by have:=(hs.regions x hm).2.1;omega⟩⟩
def ZLa (s:Sta) (id:Str):Plc×Int:=
 bif !Jx s then (zP,1) else
 match (bif decide (Zn s id < 0) then none else s.Doors[(Zn s id).toNat]?) with
 | none=>(zP,10)
 | some d=>bif d.Ended != -1 then (zP,11) else bif !Z3 d.Veil emp then (zP,24) else (ZLs s d,0)
theorem ZLu (s:Sta) (hs:StE s) (hl:s.Regions.length≤400) (id:Str):pfn rE 24 [stA s,.str id]=some (.tup [(ZLa s id).1.enc,I (ZLa s id).2]):=by
 have hp:=Z3i s hs;have hf:=find_ok s hs.sizes id;unfold ZLa;cases c1:Jx s with
 | false=>
  rw [c1] at hp;rw [Z5 (f:=24) rfl rfl];simp only [stA] at hp;simp only [go_sem,qy,qq,qx,qz,qv,qk,reduceIte,c24,stA,hp,zP,Plc.enc,ZNE,cond_true]
 | true=>
 rw [c1] at hp;cases c2:decide (Zn s id < 0) with
 | true=>
  rw [Z5 (f:=24) rfl rfl];simp only [stA] at hp hf;simp only [go_sem,qy,qq,qx,qz,qv,qk,reduceIte,c24,stA,hp,hf,c2,zP,Plc.enc,ZNA,cond_true,cond_false]
 | false=>
 have c2':=c2;rw [ZEz] at c2';obtain ⟨k,d,h1,h2,h3⟩:=ZcU c2';have h1':Zn s id=(k:Int):=h1;have hg:=Z6 (f:=Door.enc) h2;have ha:=ZMj s hs.sizes (ZMk ((Zdb s).1 c1).1 hs hl) d;rw [h1'] at hf c2 ⊢;rw [Int.toNat_natCast,h2];simp only [stA] at hp hf ha;simp only [ZNA,cond_false];unfold Plc.enc at ha ⊢;cases c3:d.Ended != -1 with
 | true=>
  rw [Z5 (f:=24) rfl rfl];simp only [go_sem,qy,qq,qx,qz,qv,qk,reduceIte,c24,stA,hp,hf,c2,hg,Door.enc,c3,zP,ZNA,cond_true]
 | false=>
 cases c4:Z3 d.Veil emp with
 | false=>
  rw [Z5 (f:=24) rfl rfl];simp only [go_sem,qy,qq,qx,qz,qv,qk,reduceIte,c24,stA,hp,hf,c2,hg,Door.enc,c3,c4,zP,ZNA,ZNE,cond_true,cond_false]
 | true=>
  rw [Z5 (f:=24) rfl rfl];simp only [Door.enc] at ha;simp only [go_sem,qy,qq,qx,qz,qv,qk,reduceIte,c24,stA,hp,hf,c2,hg,Door.enc,c3,c4,ha,ZNA,cond_false]
end Go.AM
namespace Go.AM
open Go
theorem ZLo (s:Str):pfn rE 61 [.str s]=some (.bool (ZZ s)):=by
 have h:=Z1W s;unfold ZZ;generalize Up s=x at h ⊢;obtain ⟨ts,err,pos⟩:=x;unfold Lx.val at h;simp only at h ⊢;rw [Z5 (f:=61) rfl rfl];cases h0:err==0 with
 | false=>simp only [go_sem,qy,qq,qx,qz,qv,qk,reduceIte,c61,h,h0]
 | true=>
  rcases ts with _ | ⟨⟨tk,ta,tn,tt⟩,_ | ⟨t2,ts⟩⟩
  ·have e:(((0:Nat):Int)==1)=false:=rfl;simp only [go_sem,qy,qq,qx,qz,qv,qk,reduceIte,c61,h,h0,e]
  ·have e:(((0+1:Nat):Int)==1)=true:=rfl;have e1:ixG [.agg [I tk,I ta,I tn,.str tt]] 0=some (.agg [I tk,I ta,I tn,.str tt]):=rfl;have e2:(((1:Nat):Int)==1)=true:=rfl;cases h1:tk==1<;>simp only [go_sem,qy,qq,qx,qz,qv,qk,reduceIte,c61,h,h0,e,e1,e2,h1,Tok.enc]
  ·have e:(((ts.length+1+1:Nat):Int)==1)=false:=by
    rw [beq_eq_false_iff_ne];omega
   simp only [go_sem,qy,qq,qx,qz,qv,qk,reduceIte,c61,h,h0,e]
structure Wch where
 Id:Str
 Door:Str
def Wch.enc (w:Wch):AV:=.agg [.str w.Id,.str w.Door]
def wpP (l:List Wch) (i:Nat) (w:Wch):Bool:=ZZ w.Id&&(ZZ w.Door&&!((l.take i).map (·.Id)).any (Z3 w.Id))
def wpB (l:List Wch):Bool:=Zu (wpP l) 0 l&&decide ((l.length:Int)≤1000)
theorem ZLZ (bw ex:Bool) (l:List Wch) (hl:l.length≤100000):pfn rE 26 [.isl bw ex 2 (l.map Wch.enc)]=some (.bool (wpB l)):=by
 have hb2:∀ n (K:List Str),Zd n (K.map encS)=true:=fun n K=>ZN _ (Zw (fun t=>rfl) K)
 have hb3:∀ n k,Zd n (ZO k)=true:=fun n k=>ZN _ (Ut k)
 obtain ⟨fr',h',L1,L2,L3⟩:=Jk (E:=rE) (live:=[0,3,7,8,9]) (b:=c26L0b) l (wpP l) (fun i=>[(0,.isl bw ex 2 (l.map Wch.enc)),(3,.mp 0),(7,.isl bw ex 2 (l.map Wch.enc)),(8,I l.length),(9,I i)])
  (fun i=>[.map (((l.take i).map (·.Id)).map encS) (ZO ((l.take i).map (·.Id)).length)]) 0 (fun fr _=>get fr 0=.isl bw ex 2 (l.map Wch.enc)∧get fr 2=.bot) (fun fr _=>get fr 2=.bool false) (fun i=>rfl)
  (fun i x hx hP=>by
   have hg:=Z6 (f:=Wch.enc) hx;have hi':=Zh (Z7 hx);have hw:=Zx (n:=i) (by have:=Z7 hx;omega)
   have k1:=ZLo x.Id;have k2:=ZLo x.Door;have ht:=YW (fun x:Wch=>x.Id) hx
   unfold wpP at hP;simp only [ZNz,ZNX] at hP;obtain ⟨p1,p2,p3⟩:=hP;rw [p1] at k1;rw [p2] at k2;rw [ht];generalize (l.take i).map (·.Id)=K at p3 ⊢;have hf:Qi Z3 K x.Id=K++[x.Id]:=by unfold Qi;rw [p3];rfl
   have hp:=fun hh=>Ur (ag:=false) (kk:=[2]) (enc:=encS) (eq:=Z3) Z1Y K x.Id (h:=.map (K.map encS) (ZO K.length)::hh) (b:=0) rfl
   have hq:=fun hh=>H5 (ag:=false) (kk:=[2]) (enc:=encS) (eq:=Z3) Z1Y K x.Id (h:=.map (K.map encS) (ZO K.length)::hh) (b:=0) rfl
   rw [hf] at hp;rw [p3] at hq;simp only [encS] at hp hq;simp only [Wch.enc] at hg;refine ⟨_,by simp only [go_sem,qy,qq,qx,qz,qv,qk,reduceIte,c26L0b,hg,hi',hw,k1,k2,hp,hq,hb2,hb3,ZNA];rfl,?_⟩
   simp only [go_sem,qy,qq,qx,qz,qv,qk,reduceIte])
  (fun i x hx hP=>by
   have hg:=Z6 (f:=Wch.enc) hx;have hi':=Zh (Z7 hx);have k1:=ZLo x.Id;have k2:=ZLo x.Door;unfold wpP at hP;generalize (l.take i).map (·.Id)=K at hP ⊢;have hq:=fun hh=>H5 (ag:=false) (kk:=[2]) (enc:=encS) (eq:=Z3) Z1Y K x.Id (h:=.map (K.map encS) (ZO K.length)::hh) (b:=0) rfl
   simp only [encS] at hq;simp only [Wch.enc] at hg;cases p1:ZZ x.Id with
   | false=>
    rw [p1] at k1;exact ⟨_,_,by simp only [go_sem,qy,qq,qx,qz,qv,qk,reduceIte,c26L0b,hg,hi',k1,hb2,hb3,ZNE];rfl,by simp only [go_sem,qy,qq,qx,qz,qv,qk,reduceIte]⟩
   | true=>
   rw [p1] at k1;cases p2:ZZ x.Door with
   | false=>
    rw [p2] at k2;exact ⟨_,_,by simp only [go_sem,qy,qq,qx,qz,qv,qk,reduceIte,c26L0b,hg,hi',k1,k2,hb2,hb3,ZNA,ZNE];rfl,by simp only [go_sem,qy,qq,qx,qz,qv,qk,reduceIte]⟩
   | true=>
   rw [p2] at k2;have p3:K.any (Z3 x.Id)=true:=by rw [p1,p2] at hP;simpa using hP
   rw [p3] at hq;exact ⟨_,_,by simp only [go_sem,qy,qq,qx,qz,qv,qk,reduceIte,c26L0b,hg,hi',k1,k2,hq,hb2,hb3,ZNA];rfl,by simp only [go_sem,qy,qq,qx,qz,qv,qk,reduceIte]⟩)
  (⟨_,_,by simp only [go_sem,qy,qq,qx,qz,qv,qk,reduceIte,c26L0b,ZG];rfl,by simp only [go_sem,qy,qq,qx,qz,qv,qk,reduceIte],by simp only [go_sem,qy,qq,qx,qz,qv,qk,reduceIte]⟩)
 have L1':Zg rE [0,3,7,8,9] c26L0b [(0,.isl bw ex 2 (l.map Wch.enc)),(3,.mp 0),(7,.isl bw ex 2 (l.map Wch.enc)),(8,I l.length),(9,.int .i64 0)] [.map [] []]=_:=L1;rw [Z5 (f:=26) rfl rfl];unfold wpB;cases e:Zu (wpP l) 0 l with
 | true=>
  obtain ⟨q1,q2⟩:=L2 e;rw [e] at L1';have q1b:=q1;simp only [go_sem,qy,qq,qx,qz,qv,qk,reduceIte,c26,c26L0,ZNy,L1',q1,q2,if_true,ZNH]
 | false=>
  have q1:=L3 e;rw [e] at L1';simp only [go_sem,qy,qq,qx,qz,qv,qk,reduceIte,c26,c26L0,ZNy,L1',q1,ZNI,ZNR]
end Go.AM
namespace Go.AM
open Go
theorem ZFi (s:Sta) (hs:StE s) (id:Str) (h:ZEb s id≠0):pfn rE 31 [stA s,.str id]=some (.tup [ftA false false [] [],I (ZEb s id)]):=by
 have hc:=Zpq s hs id;simp only [stA] at hc;have h0:(ZEb s id != 0)=true:=by rw [bne_iff_ne];exact h
 rw [Z5 (f:=31) rfl rfl];generalize ZEb s id=e at hc h0 ⊢;simp only [go_sem,qy,qq,qv,qk,reduceIte,c31,stA,hc,h0,ftA,List.map]
theorem ZGg {a b:Endz}:ZEq a b=true↔a=b:=by
 unfold ZEq;rw [ZNz,ZNz,Ky,beq_iff_eq,beq_iff_eq];constructor
 ·rintro ⟨h1,h2,h3⟩;cases a;cases b;simp_all
 ·rintro rfl;exact ⟨rfl,rfl,rfl⟩
theorem ZaX (l:List Str):HK l l=true:=by
 unfold HK;rw [beq_self_eq_true,ZNH,Zda];intro j x hx;rw [ZO2,hx];exact (Ky _ _).2 rfl
theorem ZIe (D:List Str) (E:List Endz):HL D D E E=true:=by
 unfold HL;rw [beq_self_eq_true,ZaX,ZNH,ZNH,Zda];intro j x hx;rw [ZO2,hx];exact ZGg.2 rfl
end Go.AM
namespace Go.AM
open Go
def Zvh (a b:Plc):Bool:=Z3 a.Door b.Door&&(Z3 a.Street b.Street&&(Z3 a.Code b.Code&&(Z3 a.District b.District&&(Z3 a.City b.City&&(a.Number.N==b.Number.N&&(Z3 a.Number.Letter b.Number.Letter&&(a.Number.Num==b.Number.Num&&(a.Number.Den==b.Number.Den&&(a.Point.X==b.Point.X&&a.Point.Y==b.Point.Y)))))))))
theorem Zwt {a b:Plc}:Zvh a b=true↔a=b:=by
 unfold Zvh;simp only [ZNz,Ky,beq_iff_eq];constructor
 ·obtain ⟨a1,a2,a3,a4,a5,⟨b1,b2,b3,b4⟩,⟨c1,c2⟩⟩:=a;obtain ⟨d1,d2,d3,d4,d5,⟨e1,e2,e3,e4⟩,⟨f1,f2⟩⟩:=b;rintro ⟨rfl,rfl,rfl,rfl,rfl,rfl,rfl,rfl,rfl,rfl,rfl⟩;rfl
 ·rintro rfl;simp
def ZLd {α:Type} (f:α→α→Bool) (b:List α) (i:Nat) (x:α):Bool:=match b[i]? with | some y=>f x y | none=>false
def eqL {α:Type} (f:α→α→Bool) (a b:List α):Bool:=a.length==b.length&&Zu (ZLd f b) 0 a
theorem ZLj {α:Type} {f:α→α→Bool} (hf:∀ x y,f x y=true↔x=y) {a b:List α}:eqL f a b=true↔a=b:=by
 unfold eqL;rw [ZNz,beq_iff_eq,Zda];constructor
 ·rintro ⟨h1,h2⟩;refine List.ext_getElem h1 fun i hi hj=>?_
  have:=h2 i a[i] (ZND hi);unfold ZLd at this;rw [ZO2,ZND hj] at this;exact (hf _ _).1 this
 ·rintro rfl;refine ⟨rfl,fun i x hx=>?_⟩
  unfold ZLd;rw [ZO2,hx];exact (hf x x).2 rfl
theorem neL {α:Type} {a b:List α}:((a.length:Int) != (b.length:Int)) = !(a.length==b.length):=by
 cases h:a.length==b.length with
 | true=>rw [eq_of_beq h];simp
 | false=>
  have:a.length≠b.length:=by simpa using h
  simp;omega
theorem ZMl (ba ea bb eb:Bool) (a b:List Str) (hl:a.length≤100000):pfn rE 119 [.isl ba ea 1 (a.map encS),.isl bb eb 1 (b.map encS)]=some (.bool (eqL Z3 a b)):=by
 have hne:=neL (a:=a) (b:=b);rw [Z5 (f:=119) rfl rfl];unfold eqL;cases c:a.length==b.length with
 | false=>
  rw [c] at hne;simp only [go_sem,qy,qq,qx,qz,qv,qk,reduceIte,c119,ZNy,hne,ZNE,ZNR]
 | true=>
 rw [c] at hne;have hlen:a.length=b.length:=eq_of_beq c;have L:=QT (E:=rE) (live:=[0,1,12,13]) (b:=c119L0b) (h:=[]) a (ZLd Z3 b) (fun i=>[(0,.isl ba ea 1 (a.map encS)),(1,.isl bb eb 1 (b.map encS)),(12,I a.length),(13,I i)]) 0 (fun fr=>get fr 4=.bot) (fun fr=>get fr 4=.bool false) (fun i=>rfl)
  (fun i x hx hP=>by
   have hg:=Z6 (f:=encS) hx;have hi:=Zh (Z7 hx);have hw:=Zx (n:=i) (by have:=Z7 hx;omega)
   obtain ⟨y,hy⟩:∃ y,b[i]? = some y:=⟨_,ZND (by rw [←hlen];exact Z7 hx)⟩
   have hgy:=Z6 (f:=encS) hy;unfold ZLd at hP;rw [hy] at hP;dsimp only at hP;simp only [encS] at hg hgy;refine ⟨_,by simp only [go_sem,qy,qq,qx,qz,qv,qk,reduceIte,c119L0b,hg,hgy,hi,hw,hP,ZNA];rfl,?_⟩
   simp only [go_sem,qy,qq,qx,qz,qv,qk,reduceIte])
  (fun i x hx hP=>by
   have hg:=Z6 (f:=encS) hx;have hi:=Zh (Z7 hx);obtain ⟨y,hy⟩:∃ y,b[i]? = some y:=⟨_,ZND (by rw [←hlen];exact Z7 hx)⟩
   have hgy:=Z6 (f:=encS) hy;unfold ZLd at hP;rw [hy] at hP;dsimp only at hP;simp only [encS] at hg hgy;refine ⟨_,by simp only [go_sem,qy,qq,qx,qz,qv,qk,reduceIte,c119L0b,hg,hgy,hi,hP,ZNE];rfl,?_⟩
   simp only [go_sem,qy,qq,qx,qz,qv,qk,reduceIte])
  (⟨_,by simp only [go_sem,qy,qq,qx,qz,qv,qk,reduceIte,c119L0b,ZG,ZNy];rfl,by simp only [go_sem,qy,qq,qx,qz,qv,qk,reduceIte]⟩)
 obtain ⟨fr',h1,h2,h3⟩:=L;have h1':Zg rE [0,1,12,13] c119L0b [(0,.isl ba ea 1 (a.map encS)),(1,.isl bb eb 1 (b.map encS)),(12,I a.length),(13,.int .i64 0)] []=_:=h1;cases e:Zu (ZLd Z3 b) 0 a with
 | true=>
  rw [e] at h1';simp only [go_sem,qy,qq,qx,qz,qv,qk,reduceIte,c119,c119L0,ZNy,hne,h1',h2 e,if_true,ZNA,ZNH]
 | false=>
  rw [e] at h1';simp only [go_sem,qy,qq,qx,qz,qv,qk,reduceIte,c119,c119L0,ZNy,hne,h1',h3 e,ZNI,ZNA,ZNH]
theorem ZMm (ba ea bb eb:Bool) (a b:List Endz) (hl:a.length≤100000):pfn rE 120 [.isl ba ea 3 (a.map Endz.enc),.isl bb eb 3 (b.map Endz.enc)]=some (.bool (eqL ZEq a b)):=by
 have hne:=neL (a:=a) (b:=b);rw [Z5 (f:=120) rfl rfl];unfold eqL;cases c:a.length==b.length with
 | false=>
  rw [c] at hne;simp only [go_sem,qy,qq,qx,qz,qv,qk,reduceIte,c120,ZNy,hne,ZNE,ZNR]
 | true=>
 rw [c] at hne;have hlen:a.length=b.length:=eq_of_beq c;have L:=QT (E:=rE) (live:=[0,1,12,13]) (b:=c120L0b) (h:=[]) a (ZLd ZEq b) (fun i=>[(0,.isl ba ea 3 (a.map Endz.enc)),(1,.isl bb eb 3 (b.map Endz.enc)),(12,I a.length),(13,I i)]) 0 (fun fr=>get fr 4=.bot) (fun fr=>get fr 4=.bool false) (fun i=>rfl)
  (fun i x hx hP=>by
   have hg:=Z6 (f:=Endz.enc) hx;have hi:=Zh (Z7 hx);have hw:=Zx (n:=i) (by have:=Z7 hx;omega)
   obtain ⟨y,hy⟩:∃ y,b[i]? = some y:=⟨_,ZND (by rw [←hlen];exact Z7 hx)⟩
   have hgy:=Z6 (f:=Endz.enc) hy;unfold ZLd at hP;rw [hy] at hP;dsimp only at hP;unfold ZEq at hP;simp only [Endz.enc] at hg hgy;refine ⟨_,by simp only [go_sem,qy,qq,qx,qz,qv,qk,reduceIte,c120L0b,hg,hgy,hi,hw,hP,ZNA];rfl,?_⟩
   simp only [go_sem,qy,qq,qx,qz,qv,qk,reduceIte])
  (fun i x hx hP=>by
   have hg:=Z6 (f:=Endz.enc) hx;have hi:=Zh (Z7 hx);obtain ⟨y,hy⟩:∃ y,b[i]? = some y:=⟨_,ZND (by rw [←hlen];exact Z7 hx)⟩
   have hgy:=Z6 (f:=Endz.enc) hy;unfold ZLd at hP;rw [hy] at hP;dsimp only at hP;unfold ZEq at hP;simp only [Endz.enc] at hg hgy;refine ⟨_,by simp only [go_sem,qy,qq,qx,qz,qv,qk,reduceIte,c120L0b,hg,hgy,hi,hP,ZNE];rfl,?_⟩
   simp only [go_sem,qy,qq,qx,qz,qv,qk,reduceIte])
  (⟨_,by simp only [go_sem,qy,qq,qx,qz,qv,qk,reduceIte,c120L0b,ZG,ZNy];rfl,by simp only [go_sem,qy,qq,qx,qz,qv,qk,reduceIte]⟩)
 obtain ⟨fr',h1,h2,h3⟩:=L;have h1':Zg rE [0,1,12,13] c120L0b [(0,.isl ba ea 3 (a.map Endz.enc)),(1,.isl bb eb 3 (b.map Endz.enc)),(12,I a.length),(13,.int .i64 0)] []=_:=h1;cases e:Zu (ZLd ZEq b) 0 a with
 | true=>
  rw [e] at h1';simp only [go_sem,qy,qq,qx,qz,qv,qk,reduceIte,c120,c120L0,ZNy,hne,h1',h2 e,if_true,ZNA,ZNH]
 | false=>
  rw [e] at h1';simp only [go_sem,qy,qq,qx,qz,qv,qk,reduceIte,c120,c120L0,ZNy,hne,h1',h3 e,ZNI,ZNA,ZNH]
theorem ZMn (ba ea bb eb:Bool) (a b:List Plc) (hl:a.length≤100000):pfn rE 64 [.isl ba ea 11 (a.map Plc.enc),.isl bb eb 11 (b.map Plc.enc)]=some (.bool (eqL Zvh a b)):=by
 have hne:=neL (a:=a) (b:=b);rw [Z5 (f:=64) rfl rfl];unfold eqL;cases c:a.length==b.length with
 | false=>
  rw [c] at hne;simp only [go_sem,qy,qq,qx,qz,qv,qk,reduceIte,c64,ZNy,hne,ZNE,ZNR]
 | true=>
 rw [c] at hne;have hlen:a.length=b.length:=eq_of_beq c;have L:=QT (E:=rE) (live:=[0,1,12,13]) (b:=c64L0b) (h:=[]) a (ZLd Zvh b) (fun i=>[(0,.isl ba ea 11 (a.map Plc.enc)),(1,.isl bb eb 11 (b.map Plc.enc)),(12,I a.length),(13,I i)]) 0 (fun fr=>get fr 4=.bot) (fun fr=>get fr 4=.bool false) (fun i=>rfl)
  (fun i x hx hP=>by
   have hg:=Z6 (f:=Plc.enc) hx;have hi:=Zh (Z7 hx);have hw:=Zx (n:=i) (by have:=Z7 hx;omega)
   obtain ⟨y,hy⟩:∃ y,b[i]? = some y:=⟨_,ZND (by rw [←hlen];exact Z7 hx)⟩
   have hgy:=Z6 (f:=Plc.enc) hy;unfold ZLd at hP;rw [hy] at hP;dsimp only at hP;unfold Zvh at hP;simp only [Plc.enc] at hg hgy;refine ⟨_,by simp only [go_sem,qy,qq,qx,qz,qv,qk,reduceIte,c64L0b,hg,hgy,hi,hw,hP,ZNA];rfl,?_⟩
   simp only [go_sem,qy,qq,qx,qz,qv,qk,reduceIte])
  (fun i x hx hP=>by
   have hg:=Z6 (f:=Plc.enc) hx;have hi:=Zh (Z7 hx);obtain ⟨y,hy⟩:∃ y,b[i]? = some y:=⟨_,ZND (by rw [←hlen];exact Z7 hx)⟩
   have hgy:=Z6 (f:=Plc.enc) hy;unfold ZLd at hP;rw [hy] at hP;dsimp only at hP;unfold Zvh at hP;simp only [Plc.enc] at hg hgy;refine ⟨_,by simp only [go_sem,qy,qq,qx,qz,qv,qk,reduceIte,c64L0b,hg,hgy,hi,hP,ZNE];rfl,?_⟩
   simp only [go_sem,qy,qq,qx,qz,qv,qk,reduceIte])
  (⟨_,by simp only [go_sem,qy,qq,qx,qz,qv,qk,reduceIte,c64L0b,ZG,ZNy];rfl,by simp only [go_sem,qy,qq,qx,qz,qv,qk,reduceIte]⟩)
 obtain ⟨fr',h1,h2,h3⟩:=L;have h1':Zg rE [0,1,12,13] c64L0b [(0,.isl ba ea 11 (a.map Plc.enc)),(1,.isl bb eb 11 (b.map Plc.enc)),(12,I a.length),(13,.int .i64 0)] []=_:=h1;cases e:Zu (ZLd Zvh b) 0 a with
 | true=>
  rw [e] at h1';simp only [go_sem,qy,qq,qx,qz,qv,qk,reduceIte,c64,c64L0,ZNy,hne,h1',h2 e,if_true,ZNA,ZNH]
 | false=>
  rw [e] at h1';simp only [go_sem,qy,qq,qx,qz,qv,qk,reduceIte,c64,c64L0,ZNy,hne,h1',h3 e,ZNI,ZNA,ZNH]
theorem ZLv (ba ea bb eb:Bool) (a b:List Plc) (hl:a.length≤100000):pfn rE 13 [.isl ba ea 11 (a.map Plc.enc),.isl bb eb 11 (b.map Plc.enc)]=some (.bool (eqL Zvh a b)):=by
 have hne:=neL (a:=a) (b:=b);rw [Z5 (f:=13) rfl rfl];unfold eqL;cases c:a.length==b.length with
 | false=>
  rw [c] at hne;simp only [go_sem,qy,qq,qx,qz,qv,qk,reduceIte,c13,ZNy,hne,ZNE,ZNR]
 | true=>
 rw [c] at hne;have hlen:a.length=b.length:=eq_of_beq c;have L:=QT (E:=rE) (live:=[0,1,5]) (b:=c13L0b) (h:=[]) a (ZLd Zvh b) (fun i=>[(0,.isl ba ea 11 (a.map Plc.enc)),(1,.isl bb eb 11 (b.map Plc.enc)),(5,I i)]) 0 (fun fr=>get fr 4=.bot) (fun fr=>get fr 4=.bool false) (fun i=>rfl)
  (fun i x hx hP=>by
   have hg:=Z6 (f:=Plc.enc) hx;have hi:=Zh (Z7 hx);have hw:=Zx (n:=i) (by have:=Z7 hx;omega)
   obtain ⟨y,hy⟩:∃ y,b[i]? = some y:=⟨_,ZND (by rw [←hlen];exact Z7 hx)⟩
   have hgy:=Z6 (f:=Plc.enc) hy;unfold ZLd at hP;rw [hy] at hP;dsimp only at hP;unfold Zvh at hP;simp only [Plc.enc] at hg hgy;refine ⟨_,by simp only [go_sem,qy,qq,qx,qz,qv,qk,reduceIte,c13L0b,hg,hgy,hi,hw,hP,ZNA];rfl,?_⟩
   simp only [go_sem,qy,qq,qx,qz,qv,qk,reduceIte])
  (fun i x hx hP=>by
   have hg:=Z6 (f:=Plc.enc) hx;have hi:=Zh (Z7 hx);obtain ⟨y,hy⟩:∃ y,b[i]? = some y:=⟨_,ZND (by rw [←hlen];exact Z7 hx)⟩
   have hgy:=Z6 (f:=Plc.enc) hy;unfold ZLd at hP;rw [hy] at hP;dsimp only at hP;unfold Zvh at hP;simp only [Plc.enc] at hg hgy;refine ⟨_,by simp only [go_sem,qy,qq,qx,qz,qv,qk,reduceIte,c13L0b,hg,hgy,hi,hP,ZNE];rfl,?_⟩
   simp only [go_sem,qy,qq,qx,qz,qv,qk,reduceIte])
  (⟨_,by simp only [go_sem,qy,qq,qx,qz,qv,qk,reduceIte,c13L0b,ZG,ZNy];rfl,by simp only [go_sem,qy,qq,qx,qz,qv,qk,reduceIte]⟩)
 obtain ⟨fr',h1,h2,h3⟩:=L;have h1':Zg rE [0,1,5] c13L0b [(0,.isl ba ea 11 (a.map Plc.enc)),(1,.isl bb eb 11 (b.map Plc.enc)),(5,.int .i64 0)] []=_:=h1;cases e:Zu (ZLd Zvh b) 0 a with
 | true=>
  rw [e] at h1';simp only [go_sem,qy,qq,qx,qz,qv,qk,reduceIte,c13,c13L0,ZNy,hne,h1',h2 e,if_true,ZNA,ZNH]
 | false=>
  rw [e] at h1';simp only [go_sem,qy,qq,qx,qz,qv,qk,reduceIte,c13,c13L0,ZNy,hne,h1',h3 e,ZNI,ZNA,ZNH]
theorem ZMo (ea eb:Bool) (a b:List Str) (hl:a.length≤100000):pfn rE 62 [.isl false ea 1 (a.map encS),.isl false eb 1 (b.map encS)]=some (.bool (!eqL Z3 a b)):=by
 have h:=ZMl false ea false eb a b hl;rw [Z5 (f:=62) rfl rfl];cases c:eqL Z3 a b<;>rw [c] at h<;>simp only [go_sem,qy,qq,qx,qz,qv,qk,reduceIte,c62,h,ZNA,ZNE]
theorem ZMp (ea eb:Bool) (a b:List Endz) (hl:a.length≤100000):pfn rE 63 [.isl false ea 3 (a.map Endz.enc),.isl false eb 3 (b.map Endz.enc)]=some (.bool (!eqL ZEq a b)):=by
 have h:=ZMm false ea false eb a b hl;rw [Z5 (f:=63) rfl rfl];cases c:eqL ZEq a b<;>rw [c] at h<;>simp only [go_sem,qy,qq,qx,qz,qv,qk,reduceIte,c63,h,ZNA,ZNE]
theorem ZM0 (ea eb:Bool) (a b:List Plc) (hl:a.length≤100000):pfn rE 30 [.isl false ea 11 (a.map Plc.enc),.isl false eb 11 (b.map Plc.enc)]=some (.bool (!eqL Zvh a b)):=by
 have h:=ZMn false ea false eb a b hl;rw [Z5 (f:=30) rfl rfl];cases c:eqL Zvh a b<;>rw [c] at h<;>simp only [go_sem,qy,qq,qx,qz,qv,qk,reduceIte,c30,h,ZNA,ZNE]
structure Knw where
 D:List Str
 E:List Endz
 P:List Plc
def Knw.enc (k:Knw):AV:=.agg [.isl false false 1 (k.D.map encS),.isl false false 3 (k.E.map Endz.enc),.isl false false 11 (k.P.map Plc.enc)]
def ZLb (k m:Knw):Bool:=eqL Z3 k.D m.D&&(eqL ZEq k.E m.E&&eqL Zvh k.P m.P)
theorem ZLw {k m:Knw}:ZLb k m=true↔k=m:=by
 unfold ZLb;rw [ZNz,ZNz,ZLj (fun x y=>Ky x y),ZLj (fun x y=>ZGg),ZLj (fun x y=>Zwt)]
 cases k;cases m;simp
structure KnS (k:Knw):Prop where
 d:k.D.length≤1000
 e:k.E.length≤1000
 p:k.P.length≤1000
theorem ZoJ (k m:Knw) (hk:KnS k):pfn rE 29 [k.enc,m.enc]=some (.bool (ZLb k m)):=by
 have h1:=ZMo false false k.D m.D (by have:=hk.d;omega)
 have h2:=ZMp false false k.E m.E (by have:=hk.e;omega)
 have h3:=ZM0 false false k.P m.P (by have:=hk.p;omega)
 unfold ZLb Knw.enc;rw [Z5 (f:=29) rfl rfl];cases c1:eqL Z3 k.D m.D with
 | false=>
  rw [c1] at h1;simp only [go_sem,qy,qq,qx,qz,qv,qk,reduceIte,c29,h1,ZNE,ZNA,ZNR]
 | true=>
 rw [c1] at h1;cases c2:eqL ZEq k.E m.E with
 | false=>
  rw [c2] at h2;simp only [go_sem,qy,qq,qx,qz,qv,qk,reduceIte,c29,h1,h2,ZNE,ZNA,ZNR,ZNH]
 | true=>
 rw [c2] at h2;cases c3:eqL Zvh k.P m.P<;>rw [c3] at h3<;>simp only [go_sem,qy,qq,qx,qz,qv,qk,reduceIte,c29,h1,h2,h3,ZNE,ZNA,ZNH]
end Go.AM
namespace Go.AM
open Go
def ZL7 (s:Sta) (D:List Str):List Plc:=(D.filter fun x=>(ZLa s x).2==0).map fun x=>(ZLa s x).1
theorem ZM1 {s:Sta} {D:List Str} {i:Nat} {x:Str} (h:D[i]? = some x):ZL7 s (D.take (i+1))=ZL7 s (D.take i)++(bif (ZLa s x).2==0 then [(ZLa s x).1] else []):=by
 have hi:=ZO4.1 h;unfold ZL7;rw [ZOr hi.1,ZOv,ZNJ,hi.2];cases c:(ZLa s x).2==0<;>simp [List.filter,c]
theorem ZLx (s:Sta) (D:List Str):(ZL7 s D).length≤D.length:=by
 unfold ZL7;rw [ZNy];exact ZOc _ _
def kwH (D:List Str) (E:List Endz) (P:List Plc):Hp:=[.row 3 [.agg [.isl false false 1 [],.isl false false 3 [],.isl false false 11 []]],.row 11 (P.map Plc.enc),.row 3 [.agg [.isl false false 1 (D.map encS),.isl false false 3 (E.map Endz.enc),.sl 1 P.length 0 P.length false]]]
def stC (s:Sta):AV:=match stA s with | .agg cs=>.iptr false cs | v=>v
theorem ZMq (s:Sta) (hA:∀ x,pfn rE 24 [stA s,.str x]=some (.tup [(ZLa s x).1.enc,I (ZLa s x).2])) (D:List Str) (E:List Endz) (hD:D.length≤500):
 ∃ fr',Zg rE [2,4,5,19,20,21] c28L0b [(2,stC s),(4,.ptr 0 0 0 1),(5,.ptr 2 0 0 1),(19,.isl false false 1 (D.map encS)),(20,I D.length),(21,.int .i64 0)] (kwH D E [])=some (.exit 0,fr',kwH D E (ZL7 s D))∧get fr' 4=.ptr 0 0 0 1∧get fr' 5=.ptr 2 0 0 1:=by
 have hbS:∀ n (K:List Str),Zd n (K.map encS)=true:=fun n K=>ZN _ (Zw (fun t=>rfl) K)
 have hbP:∀ n (K:List Plc),Zd n (K.map Plc.enc)=true:=fun n K=>ZN _ (Zw (fun t=>rfl) K)
 have L:=Y8 (E:=rE) (live:=[2,4,5,19,20,21]) (b:=c28L0b) D.length (fun i=>[(2,stC s),(4,.ptr 0 0 0 1),(5,.ptr 2 0 0 1),(19,.isl false false 1 (D.map encS)),(20,I D.length),(21,I i)]) (fun i=>kwH D E (ZL7 s (D.take i))) (fun i=>rfl)
  (fun i hi=>by
   obtain ⟨x,hx⟩:∃ x,D[i]? = some x:=⟨_,ZND hi⟩;have hg:=Z6 (f:=encS) hx;have hi':=Zh hi;have hw:=Zx (n:=i) (by omega)
   have ha:=hA x;have hs:=ZM1 (s:=s) hx;have hle:(ZL7 s (D.take i)).length≤500:=by
    have h1:=ZLx s (D.take i);rw [ZO9] at h1;omega
   rw [hs];generalize ZL7 s (D.take i)=P at hle ⊢;have hap:=fun (r0 r2 r3:AObj) (ys:AV) (hy:fits 11 ys=true)=>XC (h:=[r0,.row 11 (P.map Plc.enc),r2,r3]) (fz:=false) (b:=1) (g:=P.length) (sz:=11) (es:=P.map Plc.enc) (bw:=false) (ex:=false) (ys:=[ys]) (bytes:=136) (by unfold rowAt;simp) rfl (by simp [hy]) (by omega) (by omega) (by simp;omega)
   generalize hq:ZLa s x=q at ha ⊢;obtain ⟨⟨a1,a2,a3,a4,a5,⟨b1,b2,b3,b4⟩,⟨e1,e2⟩⟩,er⟩:=q;have hap:=fun r0 r2 r3=>hap r0 r2 r3 (Plc.enc ⟨a1,a2,a3,a4,a5,⟨b1,b2,b3,b4⟩,⟨e1,e2⟩⟩) rfl
   simp only [Plc.enc] at ha hap;simp only [stA] at ha;simp only [stC,stA];cases c:er==0 with
   | true=>
    refine ⟨_,by simp only [go_sem,qy,qq,qx,qz,qv,qk,reduceIte,c28L0b,kwH,hg,encS,hi',hw,ha,hap,c,hbS,hbP,ZNK,ZOa,ZNJ,Plc.enc,cond_true];rfl,?_⟩
    simp only [go_sem,qy,qq,qx,qz,qv,qk,reduceIte]
   | false=>
    refine ⟨_,by simp only [go_sem,qy,qq,qx,qz,qv,qk,reduceIte,c28L0b,kwH,hg,encS,hi',hw,ha,c,hbS,hbP,ZNC,cond_false];rfl,?_⟩
    simp only [go_sem,qy,qq,qx,qz,qv,qk,reduceIte])
  (e:=.exit 0) (by simp only [go_sem,qy,qq,qx,qz,qv,qk,reduceIte,kwH,c28L0b,ZG];rfl) (by simp)
 rw [ZNP] at L;exact ⟨_,L,by simp only [go_sem,qy,qq,qx,qz,qv,qk,reduceIte],by simp only [go_sem,qy,qq,qx,qz,qv,qk,reduceIte]⟩
theorem ZLh (s:Sta) (hA:∀ x,pfn rE 24 [stA s,.str x]=some (.tup [(ZLa s x).1.enc,I (ZLa s x).2])) (id:Str) (D:List Str) (E:List Endz) (e:Int) (hf:pfn rE 31 [stA s,.str id]=some (.tup [ftA false false D E,I e])) (hD:D.length≤500):
 pfn rE 28 [stA s,.str id]=some (Knw.enc ⟨D,E,ZL7 s D⟩):=by
 obtain ⟨fr',l1,q4,q5⟩:=ZMq s hA D E hD;have hcP:Z4 ((ZL7 s D).map Plc.enc)=true:=Zw (fun t=>rfl) _
 generalize ZL7 s D=P at *;have htk:List.take P.length (P.map Plc.enc)=P.map Plc.enc:=ZNN (by simp)
 simp only [ftA] at hf;simp only [stA] at hf;simp only [kwH,stC,stA,ZNT,ZNQ] at l1;unfold Knw.enc;rw [Z5 (f:=28) rfl rfl];simp only [go_sem,qy,qq,qx,qz,qv,qk,reduceIte,put,c28,c28L0,stA,hf,ZNy,l1,q4,q5,hcP,htk,ZO5,beq_self_eq_true]
end Go.AM
namespace Go.AM
open Go
def kvH (D:List Str) (E:List Endz) (P:List Plc):Hp:=[.row 2 [.agg [.isl false false 1 [],.isl false false 3 []]],.row 2 [ftA false false D E],.row 11 (P.map Plc.enc)]
theorem ZMr (s:Sta) (hA:∀ x,pfn rE 24 [stA s,.str x]=some (.tup [(ZLa s x).1.enc,I (ZLa s x).2])) (D:List Str) (E:List Endz) (hD:D.length≤500):
 ∃ fr',Zg rE [2,4,6,8,9] c12L0b [(2,stC s),(4,.ptr 0 0 0 1),(6,.ptr 1 0 0 1),(8,.sl 2 0 0 0 false),(9,.int .i64 0)] (kvH D E [])=some (.exit 0,fr',kvH D E (ZL7 s D))∧get fr' 4=.ptr 0 0 0 1∧get fr' 6=.ptr 1 0 0 1∧get fr' 8=.sl 2 (ZL7 s D).length 0 (ZL7 s D).length false:=by
 have hbS:∀ n (K:List Str),Zd n (K.map encS)=true:=fun n K=>ZN _ (Zw (fun t=>rfl) K)
 have hbE:∀ n (K:List Endz),Zd n (K.map Endz.enc)=true:=fun n K=>ZN _ (Zw (fun t=>rfl) K)
 have hbP:∀ n (K:List Plc),Zd n (K.map Plc.enc)=true:=fun n K=>ZN _ (Zw (fun t=>rfl) K)
 have L:=Y8 (E:=rE) (live:=[2,4,6,8,9]) (b:=c12L0b) D.length (fun i=>[(2,stC s),(4,.ptr 0 0 0 1),(6,.ptr 1 0 0 1),(8,.sl 2 (ZL7 s (D.take i)).length 0 (ZL7 s (D.take i)).length false),(9,I i)]) (fun i=>kvH D E (ZL7 s (D.take i))) (fun i=>rfl)
  (fun i hi=>by
   obtain ⟨x,hx⟩:∃ x,D[i]? = some x:=⟨_,ZND hi⟩;have hg:=Z6 (f:=encS) hx;have hi':=Zh hi;have hw:=Zx (n:=i) (by omega)
   have ha:=hA x;have hs:=ZM1 (s:=s) hx;have hle:(ZL7 s (D.take i)).length≤500:=by
    have h1:=ZLx s (D.take i);rw [ZO9] at h1;omega
   rw [hs];generalize ZL7 s (D.take i)=P at hle ⊢;have hap:=fun (r0 r1 r3:AObj) (ys:AV) (hy:fits 11 ys=true)=>XC (h:=[r0,r1,.row 11 (P.map Plc.enc),r3]) (fz:=false) (b:=2) (g:=P.length) (sz:=11) (es:=P.map Plc.enc) (bw:=false) (ex:=false) (ys:=[ys]) (bytes:=136) (by unfold rowAt;simp) rfl (by simp [hy]) (by omega) (by omega) (by simp;omega)
   generalize hq:ZLa s x=q at ha ⊢;obtain ⟨⟨a1,a2,a3,a4,a5,⟨b1,b2,b3,b4⟩,⟨e1,e2⟩⟩,er⟩:=q;have hap:=fun r0 r1 r3=>hap r0 r1 r3 (Plc.enc ⟨a1,a2,a3,a4,a5,⟨b1,b2,b3,b4⟩,⟨e1,e2⟩⟩) rfl
   simp only [Plc.enc] at ha hap;simp only [stA] at ha;simp only [stC,stA];cases c:er==0 with
   | true=>
    refine ⟨_,by simp only [go_sem,qy,qq,qx,qz,qv,qk,reduceIte,c12L0b,kvH,ftA,hg,encS,ZNy,hi',hw,ha,hap,c,hbS,hbP,hbE,ZNK,ZOa,ZNJ,Plc.enc,cond_true];rfl,?_⟩
    simp only [go_sem,qy,qq,qx,qz,qv,qk,reduceIte]
   | false=>
    refine ⟨_,by simp only [go_sem,qy,qq,qx,qz,qv,qk,reduceIte,c12L0b,kvH,ftA,hg,encS,ZNy,hi',hw,ha,c,hbS,hbP,hbE,ZNC,cond_false];rfl,?_⟩
    simp only [go_sem,qy,qq,qx,qz,qv,qk,reduceIte,ZNC,cond_false])
  (e:=.exit 0) (by simp only [go_sem,qy,qq,qx,qz,qv,qk,reduceIte,kvH,ftA,c12L0b,ZNy,ZG];rfl) (by simp)
 rw [ZNP] at L;exact ⟨_,L,by simp only [go_sem,qy,qq,qx,qz,qv,qk,reduceIte],by simp only [go_sem,qy,qq,qx,qz,qv,qk,reduceIte],by simp only [go_sem,qy,qq,qx,qz,qv,qk,reduceIte]⟩
theorem HJ (s:Sta) (hA:∀ x,pfn rE 24 [stA s,.str x]=some (.tup [(ZLa s x).1.enc,I (ZLa s x).2])) (id:Str) (D:List Str) (E:List Endz) (hf:pfn rE 31 [stA s,.str id]=some (.tup [ftA false false D E,I 0])) (hD:D.length≤500):
 pfn rE 12 [stA s,.str id]=some (.tup [ftA false false D E,.isl false false 11 ((ZL7 s D).map Plc.enc)]):=by
 obtain ⟨fr',l1,q4,q6,q8⟩:=ZMr s hA D E hD;have hcP:Z4 ((ZL7 s D).map Plc.enc)=true:=Zw (fun t=>rfl) _
 generalize ZL7 s D=P at *;have htk:List.take P.length (P.map Plc.enc)=P.map Plc.enc:=ZNN (by simp)
 simp only [ftA] at hf;simp only [stA] at hf;simp only [kvH,ftA,stC,stA,ZNT,ZNQ] at l1;have h0:((0:Int) != 0)=false:=rfl;unfold ftA;rw [Z5 (f:=12) rfl rfl];simp only [go_sem,qy,qq,qx,qz,qv,qk,reduceIte,put,c12,c12L0,stA,hf,h0,ZNy,l1,q4,q6,q8,hcP,htk,ZO5,beq_self_eq_true]
theorem ZMs (s:Sta) (id:Str) (e:Int) (he:(e != 0)=true) (hf:pfn rE 31 [stA s,.str id]=some (.tup [ftA false false [] [],I e])):
 pfn rE 12 [stA s,.str id]=some (.tup [ftA false false [] [],.isl false false 11 []]):=by
 simp only [ftA,ZNT] at hf ⊢;simp only [stA] at hf;rw [Z5 (f:=12) rfl rfl];simp only [go_sem,qy,qq,qx,qz,qv,qk,reduceIte,put,c12,stA,hf,he]
structure StK (s:Sta):Prop where
 e:StE s
 doors:s.Doors.length≤500
 regions:s.Regions.length≤400
structure IsKn (s:Sta) (id:Str) (k:Knw):Prop where
 no:Zn s id < 0→k=⟨[],[],[]⟩
 at':¬ Zn s id < 0→IsFate s id k.D k.E
 P:k.P=ZL7 s k.D
theorem IsKn.sz {s:Sta} {id:Str} {k:Knw} (h:IsKn s id k):KnS k:=by
 by_cases c:Zn s id < 0
 ·rw [h.no c];exact ⟨ZNB _,ZNB _,ZNB _⟩
 ·have hf:=h.at' c;have hl:=ZLx s k.D;rw [←h.P] at hl;have h1:=hf.dl;have h2:=hf.el;exact ⟨by omega,by omega,by omega⟩
theorem ZM2 (s:Sta) (hp:Jx s=true) (hs:StK s) (id:Str):∃ k:Knw,IsKn s id k∧pfn rE 28 [stA s,.str id]=some k.enc∧pfn rE 12 [stA s,.str id]=some (.tup [ftA false false k.D k.E,.isl false false 11 (k.P.map Plc.enc)]):=by
 have hA:=ZLu s hs.e hs.regions;cases c:decide (Zn s id < 0) with
 | true=>
  have hk:ZEb s id=10:=by unfold ZEb;rw [hp,c];rfl
  have hf:=ZFi s hs.e id (by rw [hk];decide)
  rw [hk] at hf;exact ⟨⟨[],[],[]⟩,⟨fun _=>rfl,fun h=>absurd (of_decide_eq_true c) h,rfl⟩,ZLh s hA id [] [] 10 hf (ZNB _),ZMs s id 10 rfl hf⟩
 | false=>
  obtain ⟨D,E,hf,hF⟩:=ZHv s hp hs.e hs.doors id c;exact ⟨⟨D,E,ZL7 s D⟩,⟨fun h=>absurd h (of_decide_eq_false c),fun _=>hF,rfl⟩,ZLh s hA id D E 0 hf hF.dl,HJ s hA id D E hf hF.dl⟩
theorem ZLp (s:Sta) (hp:Jx s=true) (hs:StK s):∃ K:Str→Knw,∀ id,IsKn s id (K id)∧pfn rE 28 [stA s,.str id]=some (K id).enc∧pfn rE 12 [stA s,.str id]=some (.tup [ftA false false (K id).D (K id).E,.isl false false 11 ((K id).P.map Plc.enc)]):=
 ⟨fun id=>(ZM2 s hp hs id).choose,fun id=>(ZM2 s hp hs id).choose_spec⟩
end Go.AM
namespace Go.AM
open Go
structure Ntc where
 W:Str
 Od:List Str
 Oe:List Endz
 Nd:List Str
 Ne:List Endz
 Moved:Bool
 Oa:List Plc
 Na:List Plc
def Ntc.enc (n:Ntc):AV:=.agg [.str n.W,.isl false false 1 (n.Od.map encS),.isl false false 3 (n.Oe.map Endz.enc),.isl false false 1 (n.Nd.map encS),.isl false false 3 (n.Ne.map Endz.enc),.bool n.Moved,.isl false false 11 (n.Oa.map Plc.enc),.isl false false 11 (n.Na.map Plc.enc)]
def ntc (Ka Kb:Str→Knw) (w:Wch):Ntc:=⟨w.Id,(Ka w.Door).D,(Ka w.Door).E,(Kb w.Door).D,(Kb w.Door).E,!eqL Zvh (Ka w.Door).P (Kb w.Door).P,(Ka w.Door).P,(Kb w.Door).P⟩
def ZL6 (Ka Kb:Str→Knw) (l:List Wch):List Ntc:=(l.filter fun w=>!ZLb (Ka w.Door) (Kb w.Door)).map (ntc Ka Kb)
theorem ZLy (Ka Kb:Str→Knw) {l:List Wch} {i:Nat} {w:Wch} (h:l[i]? = some w):ZL6 Ka Kb (l.take (i+1))=ZL6 Ka Kb (l.take i)++(bif ZLb (Ka w.Door) (Kb w.Door) then [] else [ntc Ka Kb w]):=by
 have hi:=ZO4.1 h;unfold ZL6;rw [ZOr hi.1,ZOv,ZNJ,hi.2];cases c:ZLb (Ka w.Door) (Kb w.Door)<;>simp [List.filter,c]
theorem ZM3 (Ka Kb:Str→Knw) (l:List Wch):(ZL6 Ka Kb l).length≤l.length:=by
 unfold ZL6;rw [ZNy];exact ZOc _ _
def cmH (N:List Ntc):Hp:=[.row 8 (N.map Ntc.enc),.row 1 [.sl 0 N.length 0 N.length false]]
theorem ZMt (a b:Sta) (w:Wch) (k m:Knw) (hk:pfn rE 28 [stA a,.str w.Door]=some k.enc) (hm:pfn rE 28 [stA b,.str w.Door]=some m.enc) (sk:KnS k) (N:List Ntc) (hN:N.length≤1000) (o:AObj) (ho:∀ n,Zj n o=true):
 fnV rE 27 [w.enc,stC a,stC b,.ptr 1 0 0 1] (cmH N++[o])=some (.tup [],cmH (N++(bif ZLb k m then [] else [⟨w.Id,k.D,k.E,m.D,m.E,!eqL Zvh k.P m.P,k.P,m.P⟩]))++[o,.row 3 [k.enc],.row 3 [m.enc]]):=by
 have hi:=ZoJ k m sk;have hd:=ZM0 false false k.P m.P (by have:=sk.p;omega)
 have hbN:∀ n (K:List Ntc),Zd n (K.map Ntc.enc)=true:=fun n K=>ZN _ (Zw (fun t=>by
  unfold Ntc.enc;simp [clean,Z4,ZET,ZEU,show ∀ K:List Plc,Z4 (K.map Plc.enc)=true from fun K=>Zw (fun t=>rfl) K]) K)
 unfold Knw.enc at hk hm hi;unfold Wch.enc Knw.enc;simp only [stA] at hk hm;cases c:ZLb k m with
 | true=>
  rw [c] at hi;rw [cond_true,ZNC];rw [Q6 (f:=27) rfl rfl];simp only [go_sem,qy,qq,qx,qz,qv,qk,reduceIte,c27,stC,stA,cmH,hk,hm,hi,hbN,ho]
 | false=>
  rw [c] at hi;rw [cond_false];rw [Q6 (f:=27) rfl rfl];have hap:=fun (r1 r3 r4 r5:AObj) (ys:AV) (hy:fits 8 ys=true)=>XC (h:=[.row 8 (N.map Ntc.enc),r1,r3,r4,r5]) (fz:=false) (b:=0) (g:=N.length) (sz:=8) (es:=N.map Ntc.enc) (bw:=false) (ex:=false) (ys:=[ys]) (bytes:=168) (by unfold rowAt;simp) rfl (by simp [hy]) (by omega) (by omega) (by simp;omega)
  have hap:=fun r1 r3 r4 r5=>hap r1 r3 r4 r5 (Ntc.enc ⟨w.Id,k.D,k.E,m.D,m.E,!eqL Zvh k.P m.P,k.P,m.P⟩) rfl
  simp only [Ntc.enc] at hap;simp only [go_sem,qy,qq,qx,qz,qv,qk,reduceIte,c27,stC,stA,cmH,hk,hm,hi,hd,hap,hbN,ho,Ntc.enc,ZNJ,ZNK,ZOa]
theorem ZM4 (N:List Ntc):Z4 (N.map Ntc.enc)=true:=Zw (fun t=>by
 unfold Ntc.enc;simp [clean,Z4,ZET,ZEU,show ∀ K:List Plc,Z4 (K.map Plc.enc)=true from fun K=>Zw (fun t=>rfl) K]) N
theorem ZMu (a b:Sta) (Ka Kb:Str→Knw) (bw ex:Bool) (l:List Wch) (hk:∀ w∈l,pfn rE 28 [stA a,.str w.Door]=some (Ka w.Door).enc) (hm:∀ w∈l,pfn rE 28 [stA b,.str w.Door]=some (Kb w.Door).enc) (sk:∀ w∈l,KnS (Ka w.Door)) (hl:l.length≤1000):
 ∃ fr',Zg rE [8,9,26,27,28] c11L0b [(8,.ptr 1 0 0 1),(9,.clo (.func 27) [] [stC a,stC b,.ptr 1 0 0 1]),(26,.isl bw ex 2 (l.map Wch.enc)),(27,I l.length),(28,.int .i64 0)] (cmH [])=some (.exit 0,fr',cmH (ZL6 Ka Kb l))∧get fr' 8=.ptr 1 0 0 1:=by
 have hbN:∀ n (K:List Ntc),Zd n (K.map Ntc.enc)=true:=fun n K=>ZN _ (ZM4 K)
 have L:=Y8 (E:=rE) (live:=[8,9,26,27,28]) (b:=c11L0b) l.length (fun i=>[(8,.ptr 1 0 0 1),(9,.clo (.func 27) [] [stC a,stC b,.ptr 1 0 0 1]),(26,.isl bw ex 2 (l.map Wch.enc)),(27,I l.length),(28,I i)]) (fun i=>cmH (ZL6 Ka Kb (l.take i))) (fun i=>rfl)
  (fun i hi=>by
   obtain ⟨x,hx⟩:∃ x,l[i]? = some x:=⟨_,ZND hi⟩;have hg:=Z6 (f:=Wch.enc) hx;have hi':=Zh hi;have hw:=Zx (n:=i) (by omega)
   have hs:=ZLy Ka Kb hx;have hle:(ZL6 Ka Kb (l.take i)).length≤1000:=by
    have h1:=ZM3 Ka Kb (l.take i);rw [ZO9] at h1;omega
   have hxm:=ZNW hx;have h1:=ZMt a b x (Ka x.Door) (Kb x.Door) (hk x hxm) (hm x hxm) (sk x hxm) (ZL6 Ka Kb (l.take i)) hle;rw [hs];unfold ntc;generalize (bif ZLb (Ka x.Door) (Kb x.Door) then [] else [(⟨x.Id,(Ka x.Door).D,(Ka x.Door).E,(Kb x.Door).D,(Kb x.Door).E,!eqL Zvh (Ka x.Door).P (Kb x.Door).P,(Ka x.Door).P,(Kb x.Door).P⟩:Ntc)])=M at *;generalize ZL6 Ka Kb (l.take i)=N at *;have h2:=h1 (.row 2 [x.enc]) (fun n=>rfl)
   simp only [Wch.enc,cmH,ZNF,ZNG,stC,stA] at h2 hg;refine ⟨_,by simp only [go_sem,qy,qq,qx,qz,qv,qk,reduceIte,RL,c11L0b,cmH,stC,stA,hg,hi',hw,h2,hbN];rfl,?_⟩
   simp only [go_sem,qy,qq,qx,qz,qv,qk,reduceIte,stC,stA])
  (e:=.exit 0) (by simp only [go_sem,qy,qq,qx,qz,qv,qk,reduceIte,cmH,c11L0b,ZG];rfl) (by simp)
 rw [ZNP] at L;exact ⟨_,L,by simp only [go_sem,qy,qq,qx,qz,qv,qk,reduceIte]⟩
def ZLz:AV:=.tup [.isl false false 8 [],I 1]
def ZLq (N:List Ntc):AV:=.tup [.isl false false 8 (N.map Ntc.enc),I 0]
theorem ZM5 (a b:Sta) (ha:StE a) (hb:StE b) (bw ex:Bool) (l:List Wch) (hl:l.length≤100000) (h:(Jx a&&(Jx b&&wpB l))=false):pfn rE 11 [stA a,stA b,.isl bw ex 2 (l.map Wch.enc)]=some ZLz:=by
 have h1:=Z3i a ha;have h2:=Z3i b hb;have h3:=ZLZ bw ex l hl;simp only [stA] at h1 h2;unfold ZLz;rw [Z5 (f:=11) rfl rfl];cases c1:Jx a with
 | false=>
  rw [c1] at h1;simp only [go_sem,qy,qq,qx,qz,qv,qk,reduceIte,c11,stA,h1,ZNE]
 | true=>
 cases c2:Jx b with
 | false=>
  rw [c1] at h1;rw [c2] at h2;simp only [go_sem,qy,qq,qx,qz,qv,qk,reduceIte,c11,stA,h1,h2,ZNE,ZNA]
 | true=>
 have c3:wpB l=false:=by rw [c1,c2] at h;exact h
 rw [c1] at h1;rw [c2] at h2;rw [c3] at h3;simp only [go_sem,qy,qq,qx,qz,qv,qk,reduceIte,c11,stA,h1,h2,h3,ZNE,ZNA]
theorem ZLk (a b:Sta) (ha:StE a) (hb:StE b) (ex:Bool) (bw:Bool) (l:List Wch) (pa:Jx a=true) (pb:Jx b=true) (pl:wpB l=true) (Ka Kb:Str→Knw) (hk:∀ w∈l,pfn rE 28 [stA a,.str w.Door]=some (Ka w.Door).enc) (hm:∀ w∈l,pfn rE 28 [stA b,.str w.Door]=some (Kb w.Door).enc) (sk:∀ w∈l,KnS (Ka w.Door)):pfn rE 11 [stA a,stA b,.isl bw ex 2 (l.map Wch.enc)]=some (ZLq (ZL6 Ka Kb l)):=by
 have hl:l.length≤1000:=by
  have h1:=pl;unfold wpB at h1;rw [ZNz] at h1;have:=of_decide_eq_true h1.2;omega
 have h1:=Z3i a ha;have h2:=Z3i b hb;have h3:=ZLZ bw ex l (by omega)
 obtain ⟨fr',l1,q8⟩:=ZMu a b Ka Kb bw ex l hk hm sk hl;have hcN:=ZM4 (ZL6 Ka Kb l);rw [pa] at h1;rw [pb] at h2;rw [pl] at h3;generalize ZL6 Ka Kb l=N at *;have htk:List.take N.length (N.map Ntc.enc)=N.map Ntc.enc:=ZNN (by simp)
 simp only [stA] at h1 h2;simp only [stC,stA,cmH,ZNT,ZNQ] at l1;unfold ZLq;rw [Z5 (f:=11) rfl rfl];simp only [go_sem,qy,qq,qx,qz,qv,qk,reduceIte,put,c11,c11L0,stA,h1,h2,h3,ZNy,l1,q8,hcN,htk,ZO5,beq_self_eq_true,ZNA]
end Go.AM
namespace Go.AM
open Go
def wsB (w:Wch):Bool:=!(decide ((w.Id.size:Int) > 60)||decide ((w.Door.size:Int) > 60))
def fwB (l:List Wch):Bool:=Zu (fun _ w=>wsB w) 0 (l.take 10)&&decide ((l.length:Int)≤10)
theorem ZMv (bw ex:Bool) (l:List Wch):pfn rE 18 [.isl bw ex 2 (l.map Wch.enc)]=some (.bool (fwB l)):=by
 have hlt:(l.take 10).length≤10:=by rw [ZO9];omega
 have L:=QT (E:=rE) (live:=[0,3]) (b:=c18L0b) (h:=[]) (l.take 10) (fun _ w=>wsB w) (fun i=>[(0,.isl bw ex 2 (l.map Wch.enc)),(3,I i)]) 0 (fun fr=>get fr 0=.isl bw ex 2 (l.map Wch.enc)∧get fr 2=.bot) (fun fr=>get fr 2=.bool false) (fun i=>rfl)
  (fun i x hx hP=>by
   have hx':=HH hx;have hg:=Z6 (f:=Wch.enc) hx'.1;have hi:=Zh (Z7 hx'.1);have hi2:decide ((i:Int) < 10)=true:=decide_eq_true (by have:=hx'.2;omega)
   have hw:=Zx (n:=i) (by have:=hx'.2;omega)
   unfold wsB at hP;rw [ZNX,Bool.or_eq_false_iff] at hP;simp only [Wch.enc] at hg;refine ⟨_,by simp only [go_sem,qy,qq,qx,qz,qv,qk,reduceIte,c18L0b,hg,hi,hi2,hw,hP.1,hP.2];rfl,?_⟩
   simp only [go_sem,qy,qq,qx,qz,qv,qk,reduceIte])
  (fun i x hx hP=>by
   have hx':=HH hx;have hg:=Z6 (f:=Wch.enc) hx'.1;have hi:=Zh (Z7 hx'.1);have hi2:decide ((i:Int) < 10)=true:=decide_eq_true (by have:=hx'.2;omega)
   unfold wsB at hP;rw [ZOQ,Bool.or_eq_true] at hP;simp only [Wch.enc] at hg;cases c:decide ((x.Id.size:Int) > 60) with
   | true=>exact ⟨_,by simp only [go_sem,qy,qq,qx,qz,qv,qk,reduceIte,c18L0b,hg,hi,hi2,c];rfl,by simp only [go_sem,qy,qq,qx,qz,qv,qk,reduceIte]⟩
   | false=>
    have c2:decide ((x.Door.size:Int) > 60)=true:=by rw [c] at hP;simpa using hP
    exact ⟨_,by simp only [go_sem,qy,qq,qx,qz,qv,qk,reduceIte,c18L0b,hg,hi,hi2,c,c2];rfl,by simp only [go_sem,qy,qq,qx,qz,qv,qk,reduceIte]⟩)
  (by
   cases c:decide (l.length < 10) with
   | true=>
    have e:(l.take 10).length=l.length:=by rw [ZO9];have:=of_decide_eq_true c;omega
    rw [e];exact ⟨_,by simp only [go_sem,qy,qq,qx,qz,qv,qk,reduceIte,c18L0b,ZG];rfl,by simp only [go_sem,qy,qq,qx,qz,qv,qk,reduceIte],by simp only [go_sem,qy,qq,qx,qz,qv,qk,reduceIte]⟩
   | false=>
    have c':=of_decide_eq_false c;have e:(l.take 10).length=10:=by rw [ZO9];omega
    rw [e];have e2:decide (((10:Nat):Int) < 10)=false:=rfl;cases c3:decide (((10:Nat):Int) < (l.length:Int)) with
    | true=>exact ⟨_,by simp only [go_sem,qy,qq,qx,qz,qv,qk,reduceIte,c18L0b,ZNy,c3,e2];rfl,by simp only [go_sem,qy,qq,qx,qz,qv,qk,reduceIte],by simp only [go_sem,qy,qq,qx,qz,qv,qk,reduceIte]⟩
    | false=>exact ⟨_,by simp only [go_sem,qy,qq,qx,qz,qv,qk,reduceIte,c18L0b,ZNy,c3,e2];rfl,by simp only [go_sem,qy,qq,qx,qz,qv,qk,reduceIte],by simp only [go_sem,qy,qq,qx,qz,qv,qk,reduceIte]⟩)
 obtain ⟨fr',h1,h2,h3⟩:=L;have h1':Zg rE [0,3] c18L0b [(0,.isl bw ex 2 (l.map Wch.enc)),(3,.int .i64 0)] []=_:=h1;unfold fwB;rw [Z5 (f:=18) rfl rfl];cases hc:Zu (fun _ w=>wsB w) 0 (l.take 10) with
 | true=>
  rw [hc] at h1';obtain ⟨q1,q2⟩:=h2 hc;simp only [go_sem,qy,qq,qx,qz,qv,qk,reduceIte,c18,c18L0,h1',q1,q2,ZNy,ZNH,if_true]
 | false=>
  rw [hc] at h1';simp only [go_sem,qy,qq,qx,qz,qv,qk,reduceIte,c18,c18L0,h1',h3 hc,ZNR,ZNI]
theorem ZMw (a b:Sta) (bw ex:Bool) (l:List Wch):pfn rE 10 [stA a,stA b,.isl bw ex 2 (l.map Wch.enc)]=some (.bool (YQ a&&(YQ b&&fwB l))):=by
 have h1:=Z4F a;have h2:=Z4F b;have h3:=ZMv bw ex l;simp only [stA] at h1 h2;rw [Z5 (f:=10) rfl rfl];cases c1:YQ a with
 | false=>
  rw [c1] at h1;simp only [go_sem,qy,qq,qx,qz,qv,qk,reduceIte,c10,stA,h1,ZNR]
 | true=>
 rw [c1] at h1;cases c2:YQ b with
 | false=>
  rw [c2] at h2;simp only [go_sem,qy,qq,qx,qz,qv,qk,reduceIte,c10,stA,h1,h2,ZNR,ZOd]
 | true=>
 rw [c2] at h2;simp only [go_sem,qy,qq,qx,qz,qv,qk,reduceIte,c10,stA,h1,h2,h3,ZNH]
structure NtS (n:Ntc):Prop where
 od:n.Od.length≤1000
 oe:n.Oe.length≤1000
 nd:n.Nd.length≤1000
 ne:n.Ne.length≤1000
 oa:n.Oa.length≤1000
 na:n.Na.length≤1000
theorem ZMz {Ka Kb:Str→Knw} (sa:∀ x,KnS (Ka x)) (sb:∀ x,KnS (Kb x)) {l:List Wch}:∀ n∈ZL6 Ka Kb l,NtS n:=by
 intro n hn;unfold ZL6 at hn;obtain ⟨w,_,rfl⟩:=ZO7.1 hn;exact ⟨(sa _).d,(sa _).e,(sb _).d,(sb _).e,(sa _).p,(sb _).p⟩
theorem ZLr {s:Sta} (h:YQ s=true):StK s:=by
 have hs:=Kl s h;simp only [YQ,M3,ZNz,ZNX] at h;have h1:=h.1;simp only [decide_eq_false_iff_not] at h1;exact ⟨hs.e,by omega,by omega⟩
end Go.AM
namespace Go.AM
open Go
def ZLl (n:Ntc):Knw:=⟨n.Od,n.Oe,n.Oa⟩
def ZLm (n:Ntc):Knw:=⟨n.Nd,n.Ne,n.Na⟩
def kAt (k:Knw) (N:List Ntc):Knw:=N.foldl (fun _ n=>ZLm n) k
theorem ZMA (k:Knw) {N:List Ntc} {i:Nat} {n:Ntc} (h:N[i]? = some n):kAt k (N.take (i+1))=ZLm n:=by
 have hi:=ZO4.1 h;unfold kAt;rw [ZOr hi.1,ZOx,hi.2];rfl
theorem ZLA {k:Knw} (hk:KnS k):∀ {N:List Ntc},(∀ n∈N,NtS n)→KnS (kAt k N)
 | [],_=>hk
 | n::r,h=>by
  have h1:=h n ZOu;exact ZLA (k:=ZLm n) ⟨h1.nd,h1.ne,h1.na⟩ fun m hm=>h m (ZOB _ hm)
def rpP (k:Knw) (N:List Ntc) (i:Nat) (n:Ntc):Bool:=ZLb (kAt k (N.take i)) (ZLl n)
def rpH (k:Knw):Hp:=[.row 2 [.agg [.isl false false 1 [],.isl false false 3 []]],.row 3 [k.enc]]
def rpV (k:Knw):AV:=.tup [ftA false false k.D k.E,.isl false false 11 (k.P.map Plc.enc),I 0]
theorem ZM7 (k:Knw) (hk:KnS k) (bw ex:Bool) (N:List Ntc) (hN:∀ n∈N,NtS n) (hl:N.length≤1000):
 pfn rE 17 [ftA false false k.D k.E,.isl false false 11 (k.P.map Plc.enc),.isl bw ex 8 (N.map Ntc.enc)]=some (bif Zu (rpP k N) 0 N then rpV (kAt k N) else .tup [ftA false false [] [],.isl false false 11 [],I 11]):=by
 have hbS:∀ n (K:List Str),Zd n (K.map encS)=true:=fun n K=>ZN _ (Zw (fun t=>rfl) K)
 have hbE:∀ n (K:List Endz),Zd n (K.map Endz.enc)=true:=fun n K=>ZN _ (Zw (fun t=>rfl) K)
 have hbP:∀ n (K:List Plc),Zd n (K.map Plc.enc)=true:=fun n K=>ZN _ (Zw (fun t=>rfl) K)
 obtain ⟨fr',h',L1,L2,L3⟩:=Jk (E:=rE) (live:=[6,9,15,16,17]) (b:=c17L0b) N (rpP k N) (fun i=>[(6,.ptr 0 0 0 1),(9,.ptr 1 0 0 1),(15,.isl bw ex 8 (N.map Ntc.enc)),(16,I N.length),(17,I i)])
  (fun i=>rpH (kAt k (N.take i))) 0 (fun fr h=>get fr 6=.ptr 0 0 0 1∧get fr 9=.ptr 1 0 0 1∧get fr 7=.bot∧get fr 8=.bot∧h=rpH (kAt k N)) (fun fr h=>get fr 6=.ptr 0 0 0 1∧get fr 7=.isl false false 11 []∧get fr 8=.int .i64 11∧get fr 9=.bot∧∃ m,h=rpH m) (fun i=>rfl)
  (fun i x hx hP=>by
   have hg:=Z6 (f:=Ntc.enc) hx;have hi':=Zh (Z7 hx);have hw:=Zx (n:=i) (by have:=Z7 hx;omega)
   have hs:=ZMA k hx;have hz:=ZLA hk (N:=N.take i) fun n hn=>hN n (ZOH hn)
   have hi:=ZoJ (kAt k (N.take i)) (ZLl x) hz;unfold rpP at hP;rw [hP] at hi;rw [hs];generalize kAt k (N.take i)=m at hi ⊢;simp only [Knw.enc,ZLl] at hi;simp only [Ntc.enc] at hg;refine ⟨_,by simp only [go_sem,qy,qq,qx,qz,qv,qk,reduceIte,c17L0b,rpH,Knw.enc,ZLm,hg,hi',hw,hi,hbS,hbE,hbP,ZNA];rfl,?_⟩
   simp only [go_sem,qy,qq,qx,qz,qv,qk,reduceIte])
  (fun i x hx hP=>by
   have hg:=Z6 (f:=Ntc.enc) hx;have hi':=Zh (Z7 hx);have hz:=ZLA hk (N:=N.take i) fun n hn=>hN n (ZOH hn)
   have hi:=ZoJ (kAt k (N.take i)) (ZLl x) hz;unfold rpP at hP;rw [hP] at hi;generalize kAt k (N.take i)=m at hi ⊢;simp only [Knw.enc,ZLl] at hi;simp only [Ntc.enc] at hg;refine ⟨_,_,by simp only [go_sem,qy,qq,qx,qz,qv,qk,reduceIte,c17L0b,rpH,Knw.enc,hg,hi',hi,hbS,hbE,hbP,ZNE];rfl,?_⟩
   simp only [go_sem,qy,qq,qx,qz,qv,qk,reduceIte];exact ⟨trivial,trivial,trivial,trivial,m,rfl⟩)
  (⟨_,_,by simp only [go_sem,qy,qq,qx,qz,qv,qk,reduceIte,c17L0b,rpH,ZG];rfl,by simp only [go_sem,qy,qq,qx,qz,qv,qk,reduceIte],by simp only [go_sem,qy,qq,qx,qz,qv,qk,reduceIte],by simp only [go_sem,qy,qq,qx,qz,qv,qk,reduceIte],by simp only [go_sem,qy,qq,qx,qz,qv,qk,reduceIte],by rw [ZNP];rfl⟩)
 have L1':Zg rE [6,9,15,16,17] c17L0b [(6,.ptr 0 0 0 1),(9,.ptr 1 0 0 1),(15,.isl bw ex 8 (N.map Ntc.enc)),(16,I N.length),(17,.int .i64 0)] (rpH k)=_:=L1;unfold ftA;rw [Z5 (f:=17) rfl rfl];simp only [rpH,Knw.enc] at L1';cases e:Zu (rpP k N) 0 N with
 | true=>
  obtain ⟨q6,q9,q7,q8,rfl⟩:=L2 e;rw [e] at L1';unfold rpV ftA;generalize kAt k N=m at *;simp only [rpH,Knw.enc] at L1';simp only [go_sem,qy,qq,qx,qz,qv,qk,reduceIte,c17,c17L0,ZNy,L1',q6,q9,q7,q8,if_true,cond_true]
 | false=>
  obtain ⟨q6,q7,q8,q9,m,rfl⟩:=L3 e;rw [e] at L1';simp only [rpH,Knw.enc] at L1';simp only [go_sem,qy,qq,qx,qz,qv,qk,reduceIte,c17,c17L0,ZNy,L1',q6,q7,q8,q9,hbS,hbE,hbP,ZNI,cond_false]
end Go.AM
namespace Go.AM
open Go
instance iEnEq:DecidableEq Endz:=fun a b=>decidable_of_iff (ZEq a b=true) ZGg
def ZEh (s:Sta) (aft:Door→List Str):Nat→List Str→List Str→List Door→Option (List Door)
 | 0,_,_,_=>none
 | _+1,_,[],Q=>some Q
 | n+1,K,id::r,Q=>
  match (bif decide (Zn s id < 0) then none else s.Doors[(Zn s id).toNat]?) with
  | none=>none
  | some d=>bif decide (Q.length≤1000)&&decide ((id::r).length+(aft d).length≤1000) then ZEh s aft n ((aft d).foldl wkS (K,id::r)).1 ((aft d).foldl wkS (K,id::r)).2.tail (Q++[d]) else none
theorem ZGh {s:Sta} (hs:StE s) {id:Str} {d:Door} (h:(bif decide (Zn s id < 0) then none else s.Doors[(Zn s id).toNat]?)=some d):∃ k:Nat,s.Doors[k]? = some d∧pfn rE 54 [stA s,.str id]=some (I k):=by
 cases c:decide (Zn s id < 0) with
 | true=>rw [c] at h;cases h
 | false=>
  rw [c] at h;have h0:0≤Zn s id:=by have:=of_decide_eq_false c;omega
  refine ⟨(Zn s id).toNat,h,?_⟩;rw [find_ok s hs.sizes id,Int.toNat_of_nonneg h0]
theorem ZGi {s:Sta} (hs:StE s):∀ (n:Nat) (K L:List Str) (Q Q':List Door),ZEh s (fun d=>d.After.l) n K L Q=some Q'→Runs s K L (ZEc Q) (ZEd Q) (ZEc Q') (ZEd Q')
 | 0,_,_,_,_,h=>by cases h
 | _+1,K,[],Q,Q',h=>by
  rw [ZEh] at h;cases h;exact Runs.stop _ _ _
 | n+1,K,id::r,Q,Q',h=>by
  rw [ZEh] at h;cases hd:(bif decide (Zn s id < 0) then none else s.Doors[(Zn s id).toNat]?) with
  | none=>rw [hd] at h;cases h
  | some d=>
   rw [hd] at h;dsimp only at h;cases c:decide (Q.length≤1000)&&decide ((id::r).length+d.After.l.length≤1000) with
   | false=>rw [c] at h;cases h
   | true=>
    rw [c,cond_true] at h;simp only [ZNz,decide_eq_true_eq] at c;obtain ⟨k,hk,hf⟩:=ZGh hs hd;have ih:=ZGi hs n _ _ _ _ h;refine Runs.step _ id r _ _ _ _ k d hk hf ?_ ?_ c.2 ?_
    ·unfold ZEc;rw [ZNy];have:=ZOc (fun d:Door=>decide (d.Ended < 0)) Q;omega
    ·unfold ZEd;rw [ZNy];have:=ZOc (fun d:Door=>!decide (d.Ended < 0)&&d.After.l.isEmpty) Q;omega
    ·rw [ZFY,ZFZ];exact ih
def dOf (Q:List Door):List Str:=(Q.filter fun d=>decide (d.Ended < 0)).map (·.Id)
def eOf (Q:List Door):List Endz:=(Q.filter fun d=>!decide (d.Ended < 0)&&d.After.l.isEmpty).map ZEk
def ZEK (s:Sta) (id:Str) (D:List Str) (E:List Endz):Bool:=ZEb s id==0&&
 match ZEh s (fun d=>d.After.l) 100 [id] [id] [] with
 | some Q=>(decide (ZEi (dOf Q)=D)&&decide (ZEj (eOf Q)=E))&&(decide ((eOf Q).map (·.Id)).Nodup&&(decide ((dOf Q).length≤1000)&&decide ((eOf Q).length≤1000)))
 | none=>false
theorem ZFj {s:Sta} (hs:StE s) {id:Str} {D:List Str} {E:List Endz} (h:ZEK s id D E=true):pfn rE 31 [stA s,.str id]=some (.tup [ftA false false D E,I 0]):=by
 unfold ZEK at h;rw [ZNz,beq_iff_eq] at h;obtain ⟨h0,h⟩:=h;cases hq:ZEh s (fun d=>d.After.l) 100 [id] [id] [] with
 | none=>rw [hq] at h;cases h
 | some Q=>
  rw [hq] at h;simp only [ZNz,decide_eq_true_eq] at h;obtain ⟨⟨rfl,rfl⟩,h3,h4,h5⟩:=h;have hr:=ZGi hs _ _ _ _ _ hq;have eD:ZEc Q=(dOf Q).map encS:=by unfold ZEc dOf;rw [ZO8];rfl
  have eE:ZEd Q=(eOf Q).map Endz.enc:=by unfold ZEd eOf;rw [ZO8];rfl
  rw [eD,eE] at hr;have pD:=ZES (dOf Q);have pE:=ZF9 (eOf Q);have hc:=Zpq s hs id;rw [h0] at hc;exact ZFW s id _ _ _ _ hc hr (ZFb _ h4) (ZG5 _ h5 h3) (by simp [pD.length_eq]) (by simp [pE.length_eq]) (ZET _) (ZEU _)
def zE:Event:=⟨0,0,0,0,0,emp,emp,emp,⟨false,[]⟩,⟨false,[]⟩,⟨0,emp,0,0⟩,⟨0,0⟩,⟨false,[]⟩,⟨false,[]⟩⟩
def nU (n:Int):HN:=⟨n,emp,0,0⟩
def zD:Door:=⟨emp,emp,emp,0,nU 0,⟨0,0⟩,0,-1,⟨false,[]⟩,0,0,emp⟩
def ZL9:Str:=B [101,49]
def ZL8:Str:=B [101,50]
def ZLe:Str:=B [101,51]
def idh:Str:=B [104]
def exA:Sta:=⟨[],[⟨B [115],0,⟨false,[⟨0,0⟩,⟨9,0⟩]⟩,⟨false,[]⟩,-1⟩],[⟨B [98],0,⟨false,[⟨0,0⟩,⟨9,0⟩,⟨9,9⟩,⟨0,9⟩]⟩,-1⟩],
 [{ zD with Id:=ZL9,Street:=B [115],Building:=B [98],Number:=nU 1 },{ zD with Id:=idh,Veil:=B [120] }],[],[],[]⟩
def exE:Event:={ zE with Kind:=9,Id:=ZL9,Lst:=⟨false,[⟨ZL8,nU 1,⟨0,0⟩⟩,⟨ZLe,nU 2,⟨0,0⟩⟩]⟩ }
def exB:Sta:=ZP exA 0 exE
def ZLg:List Wch:=[⟨B [119,49],ZL9⟩,⟨B [119,50],ZL8⟩,⟨B [119,51],idh⟩]
def ZM8:Bool:=(YQ exA&&(Xn exE&&Qk exA 0 exE==0))&&((YQ exB&&(Jx exA&&Jx exB))&&wpB ZLg)
theorem ZMB:ZM8=true:=by decide +kernel
theorem ZMC:pfn rE 22 []=some (.tup [stA exA,stA exB]):=by
 have h:=ZMB;unfold ZM8 at h;simp only [ZNz,beq_iff_eq] at h;have ha:=JJ exA (Kl _ h.1.1) 0 exE (JL _ h.1.2.1);rw [h.1.2.2] at ha;have hB:ZP exA 0 exE=exB:=rfl;rw [hB] at ha;generalize exB=S at ha ⊢;simp only [exA,exE,zE,zD,nU,ZL9,ZL8,ZLe,idh,evA,stA,ZNM,ZNT,Region.enc,Street.enc,Building.enc,Door.enc,NL.enc,Pt.enc,Ent.enc,encS] at ha ⊢;have hbd:bounds none (some (AV.int IntKind.i64 2)) none 4=some (0,2,none):=rfl;rw [Z5 (f:=22) rfl rfl];simp only [go_sem,qy,qq,qx,qz,qv,qk,reduceIte,c22,hbd,ha]
theorem ZMD:pfn rE 23 []=some (.isl false false 2 (ZLg.map Wch.enc)):=by
 rw [Z5 (f:=23) rfl rfl];simp only [go_sem,qy,qq,qx,qz,qv,qk,reduceIte,c23,ZLg,Wch.enc,ZL9,ZL8,idh,ZNM,ZNT]
end Go.AM
namespace Go.AM
open Go
def ZM9 (A B:Sta):Bool:=((YQ A&&YQ B)&&((Jx A&&Jx B)&&wpB ZLg))&&((ZEK A ZL9 [ZL9] []&&(ZEK B ZL9 [ZL8,ZLe] []&&(ZEb A ZL8==10&&(ZEK B ZL8 [ZL8] []&&(ZEK A idh [idh] []&&ZEK B idh [idh] [])))))&&
 ((ZLa A ZL9).2==0&&((ZLa B ZL8).2==0&&((ZLa B ZLe).2==0&&((ZLa A idh).2==24&&(ZLa B idh).2==24)))))
theorem ZME:ZM9 exA exB=true:=by decide +kernel
def hK (p q r:Knw) (x:Str):Knw:=if x=ZL9 then p else if x=ZL8 then q else r
theorem ZMF (p q r p' q' r':Knw):ZL6 (hK p q r) (hK p' q' r') ZLg=(bif ZLb p p' then [] else [⟨B [119,49],p.D,p.E,p'.D,p'.E,!eqL Zvh p.P p'.P,p.P,p'.P⟩])++((bif ZLb q q' then [] else [⟨B [119,50],q.D,q.E,q'.D,q'.E,!eqL Zvh q.P q'.P,q.P,q'.P⟩])++(bif ZLb r r' then [] else [⟨B [119,51],r.D,r.E,r'.D,r'.E,!eqL Zvh r.P r'.P,r.P,r'.P⟩])):=by
 have h1:∀ a b c:Knw,hK a b c ZL9=a:=fun a b c=>rfl
 have h2:∀ a b c:Knw,hK a b c ZL8=b:=fun a b c=>rfl
 have h3:∀ a b c:Knw,hK a b c idh=c:=fun a b c=>rfl
 unfold ZL6 ZLg;cases c1:ZLb p p'<;>cases c2:ZLb q q'<;>cases c3:ZLb r r'<;>simp only [List.filter,h1,h2,h3,c1,c2,c3,ZNA,ZNE,ZNM,ZNT,ntc,cond_true,cond_false,ZNG,ZNC,ZNF]
theorem ZLi {P:Str→Knw→Prop} {p q r:Knw} (h1:P ZL9 p) (h2:P ZL8 q) (h3:P idh r):∀ w∈ZLg,P w.Door (hK p q r w.Door):=by
 intro w hw;unfold ZLg at hw;simp only [ZOt,List.not_mem_nil,or_false] at hw;rcases hw with rfl | rfl | rfl
 ·exact h1
 ·exact h2
 ·exact h3
theorem ZMG:pfn rE 9 []=some (.bool true):=by
 have h:=ZME;have hs:=ZMC;have hw:=ZMD;generalize exA=A at h hs;generalize exB=S at h hs;unfold ZM9 at h;simp only [ZNz,beq_iff_eq] at h;obtain ⟨⟨⟨fA,fB⟩,⟨pA,pB⟩,pw⟩,⟨t1,t2,t3,t4,t5,t6⟩,r1,r2,r3,r4,r5⟩:=h;have SA:=Kl A fA;have SB:=Kl S fB;have hAA:=ZLu A SA.e (ZLr fA).regions;have hAB:=ZLu S SB.e (ZLr fB).regions;have a1:=hAA ZL9;generalize ha1:(ZLa A ZL9).1=p1 at a1;generalize ha2:(ZLa S ZL8).1=p2;generalize ha3:(ZLa S ZLe).1=p3;have u1:ZL7 A [ZL9]=[p1]:=by unfold ZL7;simp [List.filter,r1,ha1]
 have u2:ZL7 S [ZL8,ZLe]=[p2,p3]:=by unfold ZL7;simp [List.filter,r2,r3,ha2,ha3]
 have u3:ZL7 S [ZL8]=[p2]:=by unfold ZL7;simp [List.filter,r2,ha2]
 have u4:ZL7 A [idh]=[]:=by unfold ZL7;simp [List.filter,r4]
 have u5:ZL7 S [idh]=[]:=by unfold ZL7;simp [List.filter,r5]
 have u6:ZL7 A []=[]:=rfl;have k1:=ZLh A hAA ZL9 [ZL9] [] 0 (ZFj SA.e t1) (by decide)
 have k2:=ZLh S hAB ZL9 [ZL8,ZLe] [] 0 (ZFj SB.e t2) (by decide)
 have k3:=ZLh A hAA ZL8 [] [] 10 (by have:=ZFi A SA.e ZL8 (by rw [t3];decide);rw [t3] at this;exact this) (by decide)
 have k4:=ZLh S hAB ZL8 [ZL8] [] 0 (ZFj SB.e t4) (by decide)
 have k5:=ZLh A hAA idh [idh] [] 0 (ZFj SA.e t5) (by decide)
 have k6:=ZLh S hAB idh [idh] [] 0 (ZFj SB.e t6) (by decide)
 rw [u1] at k1;rw [u2] at k2;rw [u6] at k3;rw [u3] at k4;rw [u4] at k5;rw [u5] at k6;rw [r1] at a1;have c1:=ZLk A S SA.e SB.e false false ZLg pA pB pw _ _ (ZLi (P:=fun x k=>pfn rE 28 [stA A,.str x]=some k.enc) k1 k3 k5) (ZLi (P:=fun x k=>pfn rE 28 [stA S,.str x]=some k.enc) k2 k4 k6) (ZLi (P:=fun _ k=>KnS k) ⟨by simp,by simp,by simp⟩ ⟨by simp,by simp,by simp⟩ ⟨by simp,by simp,by simp⟩)
 have c2:=ZLk S S SB.e SB.e false false ZLg pB pB pw _ _ (ZLi (P:=fun x k=>pfn rE 28 [stA S,.str x]=some k.enc) k2 k4 k6) (ZLi (P:=fun x k=>pfn rE 28 [stA S,.str x]=some k.enc) k2 k4 k6) (ZLi (P:=fun _ k=>KnS k) ⟨by simp,by simp,by simp⟩ ⟨by simp,by simp,by simp⟩ ⟨by simp,by simp,by simp⟩)
 rw [ZMF] at c1 c2;have e0:∀ k,ZLb k k=true:=fun k=>ZLw.2 rfl
 have e1:ZLb ⟨[ZL9],[],[p1]⟩ ⟨[ZL8,ZLe],[],[p2,p3]⟩=false:=rfl;have e2:ZLb ⟨[],[],[]⟩ ⟨[ZL8],[],[p2]⟩=false:=rfl;have e3:eqL Zvh [p1] [p2,p3]=false:=rfl;have e4:eqL Zvh [] [p2]=false:=rfl;rw [e1,e2,e0] at c1;rw [e0,e0,e0] at c2;simp only [e3,e4,cond_true,cond_false,ZNG,ZNC,ZNF,ZNE] at c1 c2;have q1:=ZM7 ⟨[ZL9],[],[p1]⟩ ⟨by simp,by simp,by simp⟩ false false [⟨B [119,49],[ZL9],[],[ZL8,ZLe],[],true,[p1],[p2,p3]⟩] (by intro n hn;rw [ZOi] at hn;subst hn;exact ⟨by simp,by simp,by simp,by simp,by simp,by simp⟩) (by simp)
 have q2:=ZM7 ⟨[],[],[]⟩ ⟨by simp,by simp,by simp⟩ false false [⟨B [119,49],[ZL9],[],[ZL8,ZLe],[],true,[p1],[p2,p3]⟩] (by intro n hn;rw [ZOi] at hn;subst hn;exact ⟨by simp,by simp,by simp,by simp,by simp,by simp⟩) (by simp)
 have w1:Zu (rpP ⟨[ZL9],[],[p1]⟩ [⟨B [119,49],[ZL9],[],[ZL8,ZLe],[],true,[p1],[p2,p3]⟩]) 0 [⟨B [119,49],[ZL9],[],[ZL8,ZLe],[],true,[p1],[p2,p3]⟩]=true:=by
  rw [Zda];intro i x hx;cases i with
  | zero=>cases hx;exact e0 _
  | succ i=>cases hx
 have w2:Zu (rpP ⟨[],[],[]⟩ [⟨B [119,49],[ZL9],[],[ZL8,ZLe],[],true,[p1],[p2,p3]⟩]) 0 [⟨B [119,49],[ZL9],[],[ZL8,ZLe],[],true,[p1],[p2,p3]⟩]=false:=rfl;rw [w1,cond_true] at q1;rw [w2,cond_false] at q2;have s1:=ZF5 false false false false [ZL9] [ZL9] [] [] (by decide) (by decide)
 have s2:=ZF5 false false false false [ZL8,ZLe] [ZL8,ZLe] [] [] (by decide) (by decide)
 have s3:=ZF5 false false false false [] [] [] [] (by decide) (by decide)
 rw [ZIe] at s1 s2 s3;have hbd:bounds none (some (AV.int IntKind.i64 1)) none 2=some (0,1,none):=rfl;have z0:((0:Int) != 0)=false:=rfl;have z1:((0:Int)==0)=true:=rfl;have z2:(((0:Nat):Int) != 0)=false:=rfl;have z3:(((0+1+1:Nat):Int) != 2)=false:=rfl;have z4:(((0+1+1:Nat):Int)==2)=true:=rfl;have z5:((11:Int)==11)=true:=rfl;have z6:(((2:Nat):Int) != 2)=false:=rfl;have z7:(((2:Nat):Int)==2)=true:=rfl;have x0:∀ (a:AV) (l:List AV),ixG (a::l) 0=some a:=fun a l=>rfl
 have x1:∀ (a b:AV) (l:List AV),ixG (a::b::l) 1=some b:=fun a b l=>rfl
 have y1:Z3 (B [119,49]) (B [119,49])=true:=(Ky _ _).2 rfl;have y2:Z3 (B [119,50]) (B [119,50])=true:=(Ky _ _).2 rfl;obtain ⟨a11,a12,a13,a14,a15,⟨a16,a17,a18,a19⟩,⟨a1a,a1b⟩⟩:=p1;obtain ⟨a21,a22,a23,a24,a25,⟨a26,a27,a28,a29⟩,⟨a2a,a2b⟩⟩:=p2;obtain ⟨a31,a32,a33,a34,a35,⟨a36,a37,a38,a39⟩,⟨a3a,a3b⟩⟩:=p3;simp only [ZLq,rpV,kAt,ZLm,List.foldl,ftA,Ntc.enc,Plc.enc,Wch.enc,ZL9,ZL8,ZLe,encS,ZNM,ZNT,stA] at a1 c1 c2 q1 q2 s1 s2 s3 hs hw;rw [Z5 (f:=9) rfl rfl];simp only [go_sem,qy,qq,qx,qz,qv,qk,reduceIte,c9,hs,hw,a1,c1,c2,q1,q2,s1,s2,s3,hbd,z0,z1,z2,z3,z4,z5,z6,z7,x0,x1,y1,y2,ZNL,ZNQ]
end Go.AM
namespace Go.AM
open Go
theorem ZMK (a b:Sta) (ha:StK a) (hb:StK b) (l:List Wch) (hl:l.length≤1000):∃ N e,pfn rE 11 [stA a,stA b,.isl false false 2 (l.map Wch.enc)]=some (.tup [.isl false false 8 (List.map Ntc.enc N),I e]):=by
 cases c:Jx a&&(Jx b&&wpB l) with
 | false=>exact ⟨[],1,ZM5 a b ha.e hb.e false false l (by omega) c⟩
 | true=>
  simp only [ZNz] at c;obtain ⟨Ka,hKa⟩:=ZLp a c.1 ha;obtain ⟨Kb,hKb⟩:=ZLp b c.2.1 hb;exact ⟨_,0,ZLk a b ha.e hb.e false false l c.1 c.2.1 c.2.2 Ka Kb (fun w _=>(hKa _).2.1) (fun w _=>(hKb _).2.1) (fun w _=>(hKa _).1.sz)⟩
end Go.AM
namespace Go.AM
open Go
theorem ZNm {E:Env} {ex:Bool} {sz:Nat} {z:AV} {fr:Fr} {h:Hp}:Za E (.bsl false ex sz z 0 []) fr h=bxr h (fits sz z):=by
 simp only [Za,Z8,QG,Wm,opT,ZNT,List.replicate,YC];cases fits sz z<;>rfl
theorem ZNo {h:Hp} {b sz bytes:Nat} {ys:List AV} {bw ex:Bool} {aid:Nat} (hb:h[b]? = some (.row sz [])) (hy:ys.isEmpty=false) (hf:ys.all (fits sz)=true) (h0:0 < sz) (h1:0 < bytes) (h2:ys.length * bytes≤70368744177664):
 Qt h aid false sz bytes (.sl b 0 0 0 true) (.isl bw ex sz ys)=some (.sl aid ys.length 0 ys.length false,[b],some (aid,.row sz ys)):=by
 have e1:Q2 h (.sl b 0 0 0 true)=some []:=by simp only [Q2,hb,ZNQ,beq_self_eq_true,cond_true];rfl
 have e2:Q2 h (.isl bw ex sz ys)=some ys:=rfl;have o1:Qq h sz (.sl b 0 0 0 true)=true:=by simp [Qq,hb]
 have o2:Qq h sz (.isl bw ex sz ys)=true:=by simp [Qq]
 unfold Qt;rw [e1,e2];dsimp only;rw [if_pos ⟨o1,o2,h0,h1,by simpa using h2⟩,hy]
 simp only [cond_false,ZNG,Yp,hf,cond_true];rfl
theorem ZNu {h:Hp} {b sz bytes:Nat} {es ys:List AV} {bw ex:Bool} {aid:Nat} (hb:h[b]? = some (.row sz es)) (hy:ys.isEmpty=false) (hf:ys.all (fits sz)=true) (h0:0 < sz) (h1:0 < bytes) (h2:(es.length+ys.length) * bytes≤70368744177664):
 Qt h aid false sz bytes (.sl b es.length 0 es.length false) (.isl bw ex sz ys)=some (.sl b (es.length+ys.length) 0 (es.length+ys.length) false,[b],some (b,.row sz (es++ys))):=by
 simp only [Qt,Q2,hb,beq_self_eq_true,cond_true,ZO5,ZNP,Qq,ZNV,h0,h1,h2,and_self,if_true,hy,cond_false,hf,ZO0,Zs]
theorem ZDN {h:Hp} {b sz bytes:Nat} {es:List AV} {bw ex fx:Bool} {aid:Nat} (hb:h[b]? = some (.row sz es)) (h0:0 < sz) (h1:0 < bytes) (h2:es.length * bytes≤70368744177664):
 Qt h aid false sz bytes (.sl b es.length 0 es.length fx) (.isl bw ex sz [])=some (.sl b es.length 0 es.length fx,[b],none):=by
 simp only [Qt,Q2,hb,beq_self_eq_true,cond_true,ZO5,ZNP,Qq,ZNV,ZOb,h0,h1,h2,and_self,if_true,Zs,ZNQ,Nat.add_zero,List.isEmpty_nil,ZNC]
theorem ZNp {h:Hp} {sz bytes:Nat} {s x v:AV} {rs:List Nat} {wr:Option (Nat×AObj)} (he:Qt h h.length false sz bytes s x=some (v,rs,wr)):appW h false sz bytes s x=some (v,ZH h wr):=by
 unfold appW;rw [he];rfl
theorem ZNq {h:Hp} {n sz bytes:Nat} {s x v:AV} {rs:List Nat} {wr:Option (Nat×AObj)} (he:Qt h n false sz bytes s x=some (v,rs,wr)):wrB (Qt h n false sz bytes s x)=wr.map (·.1):=by
 rw [he];rfl
end Go.AM
namespace Go.AM
open Go
end Go.AM
namespace Go.AM
open Go
theorem ZNj {h:Hp} {n sz bytes:Nat} {s x v:AV} {rs:List Nat} {wr:Option (Nat×AObj)} {r:Option Zt} (hn:h.length=n) (he:Qt h n false sz bytes s x=some (v,rs,wr)) (hr:ZvE h (v,rs,wr)=r):Zwk h sz bytes s x=r:=by
 unfold Zwk;rw [hn,he];exact hr
theorem ZNk {h:Hp} {sz bytes:Nat} {s x v:AV} {rs:List Nat} {b:Nat} {o:AObj} (he:Zwk h sz bytes s x=some (v,rs,some (b,o))):ZwE h sz bytes s x=some (v,setH h b o):=by
 unfold ZwE;rw [he];rfl
theorem ZNl {h:Hp} {sz bytes:Nat} {s x v:AV} {rs:List Nat} {b:Nat} {o:AObj} (he:Zwk h sz bytes s x=some (v,rs,some (b,o))):wrB (Zwk h sz bytes s x)=some b:=by
 rw [he];rfl
theorem ZNr {h:Hp} {b sz g:Nat} {rs:List Nat} {es:List AV} {ex:Bool} (hb:h[b]? = some (.row sz es)) (hg:es.length=g) (hc:Z4 es=true):ZvE h (.sl b g 0 g ex,rs,none)=some (.isl false ex sz es,rs,some (b,.gone)):=by
 subst hg;simp only [ZvE,hb,beq_self_eq_true,hc,ZO0,cond_true,ZO5,ZNP]
theorem ZNs {h:Hp} {b sz g:Nat} {rs:List Nat} {es:List AV} {ex:Bool} (hg:es.length=g) (hc:Z4 es=true):ZvE h (.sl b g 0 g ex,rs,some (b,.row sz es))=some (.isl false ex sz es,rs,some (b,.gone)):=by
 subst hg;simp only [ZvE,beq_self_eq_true,hc,ZO0,cond_true,ZO5,ZNP]
theorem ZNv (sz bytes:Nat) (p:AObj) (q:AObj) (L M:List AV) (fL:L.all (fits sz)=true) (fM:M.all (fits sz)=true) (cL:Z4 L=true) (cM:Z4 M=true) (h0:0 < sz) (h1:0 < bytes) (h2:(L.length+M.length) * bytes≤70368744177664):
 (∃ V1:AV,V1=.sl 2 0 0 0 true∧appW [p,q,.row sz []] false sz bytes (.sl 2 0 0 0 true) (.isl false false sz L)=some (V1,[p,q,.row sz []])∧wrB (Qt [p,q,.row sz []] 3 false sz bytes (.sl 2 0 0 0 true) (.isl false false sz L))=none∧
  ∃ ex,(ZwE [p,q,.row sz []] sz bytes V1 (.isl false false sz M)=some (.isl false ex sz (L++M),[p,q,.gone])∧wrB (Zwk [p,q,.row sz []] sz bytes V1 (.isl false false sz M))=some 2)∨
   (ZwE [p,q,.row sz []] sz bytes V1 (.isl false false sz M)=some (.isl false ex sz (L++M),[p,q,.row sz [],.gone])∧wrB (Zwk [p,q,.row sz []] sz bytes V1 (.isl false false sz M))=some 3))∨
 (∃ V1:AV,V1=.sl 3 L.length 0 L.length false∧appW [p,q,.row sz []] false sz bytes (.sl 2 0 0 0 true) (.isl false false sz L)=some (V1,[p,q,.row sz [],.row sz L])∧wrB (Qt [p,q,.row sz []] 3 false sz bytes (.sl 2 0 0 0 true) (.isl false false sz L))=some 3∧
  ∃ ex,ZwE [p,q,.row sz [],.row sz L] sz bytes V1 (.isl false false sz M)=some (.isl false ex sz (L++M),[p,q,.row sz [],.gone])∧wrB (Zwk [p,q,.row sz [],.row sz L] sz bytes V1 (.isl false false sz M))=some 3):=by
 have hL:L.length * bytes≤70368744177664:=Nat.le_trans (Nat.mul_le_mul_right _ (Nat.le_add_right _ _)) h2;have hM:M.length * bytes≤70368744177664:=Nat.le_trans (Nat.mul_le_mul_right _ (Nat.le_add_left _ _)) h2;have cLM:Z4 (L++M)=true:=by rw [XA,cL,cM];rfl
 cases iL:L.isEmpty with
 | true=>
  rw [ZOD] at iL;subst iL;have E0:Qt [p,q,.row sz []] 3 false sz bytes (.sl 2 0 0 0 true) (.isl false false sz [])=some (.sl 2 0 0 0 true,[2],none):=ZDN (es:=[]) (b:=2) rfl h0 h1 (by simp)
  refine .inl ⟨_,rfl,ZNp (h:=[p,q,.row sz []]) E0,ZNq E0,?_⟩;cases iM:M.isEmpty with
  | true=>
   rw [ZOD] at iM;subst iM;have R:=ZNj (h:=[p,q,.row sz []]) rfl E0 (ZNr (es:=[]) rfl rfl rfl);exact ⟨_,.inl ⟨ZNk R,ZNl R⟩⟩
  | false=>
   have E2:=ZNo (h:=[p,q,.row sz []]) (b:=2) (bytes:=bytes) (ys:=M) (bw:=false) (ex:=false) (aid:=3) rfl iM fM h0 h1 hM;have R:=ZNj (h:=[p,q,.row sz []]) rfl E2 (ZNs (es:=M) rfl cM);exact ⟨_,.inr ⟨ZNk R,ZNl R⟩⟩
 | false=>
  have E1:=ZNo (h:=[p,q,.row sz []]) (b:=2) (bytes:=bytes) (ys:=L) (bw:=false) (ex:=false) (aid:=3) rfl iL fL h0 h1 hL;refine .inr ⟨_,rfl,ZNp (h:=[p,q,.row sz []]) E1,ZNq E1,?_⟩;cases iM:M.isEmpty with
  | true=>
   rw [ZOD] at iM;subst iM;have E2:=ZDN (h:=[p,q,.row sz [],.row sz L]) (b:=3) (bytes:=bytes) (es:=L) (bw:=false) (ex:=false) (fx:=false) (aid:=4) rfl h0 h1 hL;have R:=ZNj (h:=[p,q,.row sz [],.row sz L]) rfl E2 (ZNr (es:=L) rfl rfl cL);rw [ZNC];exact ⟨_,ZNk R,ZNl R⟩
  | false=>
   have E2:=ZNu (h:=[p,q,.row sz [],.row sz L]) (b:=3) (bytes:=bytes) (es:=L) (ys:=M) (bw:=false) (ex:=false) (aid:=4) rfl iM fM h0 h1 h2;have R:=ZNj (h:=[p,q,.row sz [],.row sz L]) rfl E2 (ZNs (es:=L++M) (by simp) cLM)
   exact ⟨_,ZNk R,ZNl R⟩
def wW (d:Str):Wch:=⟨B [119],d⟩
theorem ZNw (a b c:Sta) (d:Str) (X Y Z:List AV) (k m:Knw) (hk:KnS k) (hm:KnS m) (hup:pfn rE 9 []=some (.bool true)) (hf:pfn rE 10 [stA a,stA b,.isl false false 2 [(wW d).enc]]=some (.bool true)) (hc:pfn rE 16 [stA c]=some (.bool true))
 (h1:pfn rE 11 [stA a,stA b,.isl false false 2 [(wW d).enc]]=some (.tup [.isl false false 8 X,I 0])) (h2:pfn rE 11 [stA b,stA c,.isl false false 2 [(wW d).enc]]=some (.tup [.isl false false 8 Y,I 0])) (h3:pfn rE 11 [stA a,stA c,.isl false false 2 [(wW d).enc]]=some (.tup [.isl false false 8 Z,I 0]))
 (k1:pfn rE 12 [stA a,.str d]=some (.tup [ftA false false k.D k.E,.isl false false 11 (k.P.map Plc.enc)])) (k2:pfn rE 12 [stA c,.str d]=some (.tup [ftA false false m.D m.E,.isl false false 11 (m.P.map Plc.enc)]))
 (r1:∀ ex,pfn rE 17 [ftA false false k.D k.E,.isl false false 11 (k.P.map Plc.enc),.isl false ex 8 (X++Y)]=some (rpV m)) (r2:pfn rE 17 [ftA false false k.D k.E,.isl false false 11 (k.P.map Plc.enc),.isl false false 8 Z]=some (rpV m))
 (cX:Z4 X=true) (cY:Z4 Y=true) (fX:X.all (fits 8)=true) (fY:Y.all (fits 8)=true) (lX:X.length≤10) (lY:Y.length≤10):
 pfn rE 4 [stA a,stA b,stA c,.str d]=some (.bool true):=by
 have s1:=ZF5 false false false false m.D m.D m.E m.E hm.d hm.e;have s2:=ZLv false false false false m.P m.P (by have:=hm.p;omega)
 rw [ZIe] at s1;rw [(ZLj (fun x y=>Zwt)).2 rfl] at s2
 have y1:((0:Int) != 0)=false:=rfl;have y2:((0:Int)==0)=true:=rfl;simp only [rpV] at r1 r2;have hA:=ZNv 8 168 (.row 2 [ftA false false k.D k.E]) (.row 2 [ftA false false m.D m.E]) X Y fX fY cX cY (by decide) (by decide) (by omega)
 simp only [ftA] at k1 k2 r1 r2 s1 hA;simp only [wW,Wch.enc] at hf h1 h2 h3;simp only [stA] at hf hc h1 h2 h3 k1 k2 ⊢;rw [Z5 (f:=4) rfl rfl];rcases hA with ⟨V1,rfl,A1,B1,ex,⟨A2,B2⟩ | ⟨A2,B2⟩⟩ | ⟨V1,rfl,A1,B1,ex,A2,B2⟩
 ·simp only [go_sem,qy,qq,qx,qz,qv,qk,reduceIte,c4,hf,hc,hup,h1,h2,h3,k1,k2,r1,r2,s1,s2,y1,y2,ZNm,A1,B1,A2,B2,ZNA]
 ·simp only [go_sem,qy,qq,qx,qz,qv,qk,reduceIte,c4,hf,hc,hup,h1,h2,h3,k1,k2,r1,r2,s1,s2,y1,y2,ZNm,A1,B1,A2,B2,ZNA]
 ·simp only [go_sem,qy,qq,qx,qz,qv,qk,reduceIte,c4,hf,hc,hup,h1,h2,h3,k1,k2,r1,r2,s1,s2,y1,y2,ZNm,A1,B1,A2,B2,ZNA]
theorem ZNx {k:Knw} {n:Ntc} {r:List Ntc} (h1:ZLb k (ZLl n)=true) (h2:Zu (rpP (ZLm n) r) 0 r=true):Zu (rpP k (n::r)) 0 (n::r)=true:=by
 rw [Zda] at h2 ⊢;intro i x hx;cases i with
 | zero=>cases hx;exact h1
 | succ i=>
  have:=h2 i x hx;rw [ZO2] at this ⊢;exact this
theorem ZN7 (Ka Kb:Str→Knw) (w:Wch):ZL6 Ka Kb [w]=bif ZLb (Ka w.Door) (Kb w.Door) then [] else [ntc Ka Kb w]:=by
 unfold ZL6;cases c:ZLb (Ka w.Door) (Kb w.Door)<;>simp [List.filter,c]
theorem ZNn (Ka Kb:Str→Knw) (w:Wch) (r:List Ntc) (h:Zu (rpP (Kb w.Door) r) 0 r=true):Zu (rpP (Ka w.Door) (ZL6 Ka Kb [w]++r)) 0 (ZL6 Ka Kb [w]++r)=true∧kAt (Ka w.Door) (ZL6 Ka Kb [w]++r)=kAt (Kb w.Door) r:=by
 rw [ZN7];cases c:ZLb (Ka w.Door) (Kb w.Door) with
 | true=>rw [ZLw.1 c];exact ⟨h,rfl⟩
 | false=>exact ⟨ZNx (ZLw.2 rfl) h,rfl⟩
theorem ZNt (a b c:Sta) (d:Str) (X Y Z:List AV) (x1 x2 x3:Int) (hup:pfn rE 9 []=some (.bool true)) (hf:pfn rE 10 [stA a,stA b,.isl false false 2 [(wW d).enc]]=some (.bool true)) (hc:pfn rE 16 [stA c]=some (.bool true))
 (h1:pfn rE 11 [stA a,stA b,.isl false false 2 [(wW d).enc]]=some (.tup [.isl false false 8 X,I x1])) (h2:pfn rE 11 [stA b,stA c,.isl false false 2 [(wW d).enc]]=some (.tup [.isl false false 8 Y,I x2])) (h3:pfn rE 11 [stA a,stA c,.isl false false 2 [(wW d).enc]]=some (.tup [.isl false false 8 Z,I x3]))
 (hx:x1=1∨(x1=0∧x2=1)):
 pfn rE 4 [stA a,stA b,stA c,.str d]=some (.bool true):=by
 have y1:((0:Int) != 0)=false:=rfl;have y2:((1:Int) != 0)=true:=rfl;simp only [wW,Wch.enc] at hf h1 h2 h3;simp only [stA] at hf hc h1 h2 h3 ⊢;rw [Z5 (f:=4) rfl rfl];rcases hx with rfl | ⟨rfl,rfl⟩
 ·simp only [go_sem,qy,qq,qx,qz,qv,qk,reduceIte,c4,hf,hc,hup,h1,h2,h3,y1,y2,ZNA]
 ·simp only [go_sem,qy,qq,qx,qz,qv,qk,reduceIte,c4,hf,hc,hup,h1,h2,h3,y1,y2,ZNA]
theorem Zs5 (a b c:Sta) (d:Str):pfn rE 4 [stA a,stA b,stA c,.str d]=some (.bool true):=by
 have hf:=ZMw a b false false [wW d];have hc:=Z4F c;have hup:=ZMG;simp only [ZNM,ZNT] at hf;cases c0:YQ a&&(YQ b&&fwB [wW d]) with
 | false=>
  rw [c0] at hf;simp only [wW,Wch.enc] at hf;simp only [stA] at hf ⊢;rw [Z5 (f:=4) rfl rfl];simp only [go_sem,qy,qq,qx,qz,qv,qk,reduceIte,c4,hf,hup,ZNE]
 | true=>
 rw [c0] at hf;cases c1:YQ c with
 | false=>
  rw [c1] at hc;simp only [wW,Wch.enc] at hf;simp only [stA] at hf hc ⊢;rw [Z5 (f:=4) rfl rfl];simp only [go_sem,qy,qq,qx,qz,qv,qk,reduceIte,c4,hf,hc,hup,ZNE,ZNA]
 | true=>
 rw [c1] at hc;simp only [ZNz] at c0;obtain ⟨fa,fb,fl⟩:=c0;have ha:=ZLr fa;have hb:=ZLr fb;have hcK:=ZLr c1;obtain ⟨X,x1,h1⟩:=ZMK a b ha hb [wW d] (by simp)
 obtain ⟨Y,x2,h2⟩:=ZMK b c hb hcK [wW d] (by simp)
 obtain ⟨Z,x3,h3⟩:=ZMK a c ha hcK [wW d] (by simp)
 cases c2:Jx a&&(Jx b&&wpB [wW d]) with
 | false=>
  have e1:=ZM5 a b ha.e hb.e false false [wW d] (by simp) c2
  exact ZNt a b c d _ _ _ _ _ _ hup hf hc e1 h2 h3 (.inl rfl)
 | true=>
 simp only [ZNz] at c2;obtain ⟨pa,pb,pw⟩:=c2;obtain ⟨Ka,hKa⟩:=ZLp a pa ha;obtain ⟨Kb,hKb⟩:=ZLp b pb hb;have g1:=ZLk a b ha.e hb.e false false [wW d] pa pb pw Ka Kb (fun w _=>(hKa _).2.1) (fun w _=>(hKb _).2.1) (fun w _=>(hKa _).1.sz)
 cases c3:Jx c with
 | false=>
  have e2:=ZM5 b c hb.e hcK.e false false [wW d] (by simp) (by rw [c3];simp)
  exact ZNt a b c d _ _ _ _ _ _ hup hf hc g1 e2 h3 (.inr ⟨rfl,rfl⟩)
 | true=>
 obtain ⟨Kc,hKc⟩:=ZLp c c3 hcK;have g2:=ZLk b c hb.e hcK.e false false [wW d] pb c3 pw Kb Kc (fun w _=>(hKb _).2.1) (fun w _=>(hKc _).2.1) (fun w _=>(hKb _).1.sz)
 have g3:=ZLk a c ha.e hcK.e false false [wW d] pa c3 pw Ka Kc (fun w _=>(hKa _).2.1) (fun w _=>(hKc _).2.1) (fun w _=>(hKa _).1.sz)
 have za:=fun x=>(hKa x).1.sz
 have zb:=fun x=>(hKb x).1.sz
 have zc:=fun x=>(hKc x).1.sz
 have l1:=ZM3 Ka Kb [wW d];have l2:=ZM3 Kb Kc [wW d];have l3:=ZM3 Ka Kc [wW d];rw [ZOa] at l1 l2 l3;have p2:=ZNn Kb Kc (wW d) [] rfl;have p1:=ZNn Ka Kb (wW d) (ZL6 Kb Kc [wW d]++[]) p2.1;have p3:=ZNn Ka Kc (wW d) [] rfl;rw [p2.2] at p1;simp only [ZNC] at p1 p3;have r1:=fun ex=>ZM7 (Ka (wW d).Door) (za _) false ex (ZL6 Ka Kb [wW d]++ZL6 Kb Kc [wW d]) (fun n hn=>by rcases ZOm.1 hn with h | h;exact ZMz za zb n h;exact ZMz zb zc n h) (by rw [ZNK];omega)
 have r2:=ZM7 (Ka (wW d).Door) (za _) false false (ZL6 Ka Kc [wW d]) (ZMz za zc) (by omega)
 have hfiN:∀ K:List Ntc,(K.map Ntc.enc).all (fits 8)=true:=fun K=>by rw [ZOy,ZNO];intro x _;rfl
 rw [p3.1,p3.2,cond_true] at r2;rw [p1.1,p1.2,ZNJ] at r1;exact ZNw a b c d _ _ _ _ _ (za _) (zc _) hup hf hc g1 g2 g3 (hKa d).2.2 (hKc d).2.2 r1 r2 (ZM4 _) (ZM4 _) (hfiN _) (hfiN _) (by simp;omega) (by simp;omega)
end Go.AM
namespace Go.AM
open Go
end Go.AM
namespace Go.AM
open Go
end Go.AM
namespace Go.AM
open Go
end Go.AM
namespace Go.AM
open Go
end Go.AM
namespace Go.AM
open Go
structure Dst (R:Door→Door→Prop) (s t:Sta) (N:List Door):Prop where
 fw:∀ x∈s.Doors,∃ y∈t.Doors,R x y
 bw:∀ y∈t.Doors,(∃ x∈s.Doors,R x y)∨y∈N
 nw:∀ y∈N,y∈t.Doors
 dj:∀ x∈s.Doors,∀ y∈N,y.Id≠x.Id
 ln:t.Doors.length=s.Doors.length+N.length
 nd:(N.map (·.Id)).Nodup
end Go.AM
namespace Go.AM
open Go
end Go.AM
namespace Go.AM
open Go
end Go.AM
namespace Go.AM
open Go
end Go.AM
namespace Go.AM
open Go
end Go.AM
namespace Go.AM
open Go
end Go.AM
namespace Go.AM
open Go
end Go.AM
