/- What the functions of the program compute, part 2, for WatchQuiet. No condition. -/
import Derived.Test.YtleidcbidcdaiaaGreatDoorP8a
import Derived.Test.YtleidcbidcdaiaaGreatDoorQ5
set_option linter.unusedVariables false
set_option linter.unusedSimpArgs false
set_option linter.unusedSectionVars false
open Nat renaming reduceAdd → qq, reduceSub → qx, reduceMul → qz, reduceLT → qv, reduceLeDiff → qk, reduceBEq → qy
namespace Go.AM
open Go
def Ye (V:List Bool):List AV:=V.map .bool
theorem Wi (x y:Int):Zz false [1] (I x) (I y)=some (x==y):=by simp only [go_sem,reduceIte]
theorem Z2W (K:List Int) (V:List Bool) (hl:V.length=K.length) (x:Int) {h:Hp} {b:Nat} (hb:h[b]? = some (.map (K.map I) (Ye V))):
 ∃ c,W5 h false [1] false (.bool false) (.mp b) (I x)=some (.bool c):=by
 simp only [W5,hb,QW,Wi];rcases Uq (ag:=false) (kk:=[1]) (enc:=I) (eq:=fun a b=>a==b) Wi x K 0 with ⟨h1,h2⟩ | ⟨j,h1,h2,h3,h4⟩
 ·rw [h1];exact ⟨false,rfl⟩
 ·have:(Ye V)[j]? = some (.bool (V[j]'(by omega))):=by
   unfold Ye;rw [ZOF,ZO6 (by omega)];rfl
  rw [h1];simp only [this];exact ⟨_,rfl⟩
theorem Z2X (K:List Int) (V:List Bool) (hl:V.length=K.length) (x:Int) (c:Bool) {h:Hp} {b:Nat} (hb:h[b]? = some (.map (K.map I) (Ye V))):
 ∃ (K':List Int) (V':List Bool),V'.length=K'.length∧K'.length≤K.length+1∧YK h false [1] (.mp b) (I x) (.bool c)=some (.bot,setH h b (.map (K'.map I) (Ye V'))):=by
 simp only [YK,hb,Yo,Wi];rcases Uq (ag:=false) (kk:=[1]) (enc:=I) (eq:=fun a b=>a==b) Wi x K 0 with ⟨h1,h2⟩ | ⟨j,h1,h2,h3,h4⟩
 ·rw [h1];refine ⟨K++[x],V++[c],by simp [hl],by simp,?_⟩
  simp [Ye,ZM,ZH]
 ·rw [h1];refine ⟨K,V.set j c,by simp [hl],by omega,?_⟩
  simp [Ye,ZM,ZH,ZOw]
def Vm (a b:Int):Bool:=a==b
def Y2 (p:Pair):Bool:=QM p.a 0 0&&(QM p.b 0 0&&!(p.a==p.b))
def QV (l:List Pair) (i:Nat):List Int:=(l.take i).foldl (fun K p=>Qi Vm K p.b) []
def UB (l:List Pair):Bool:=Zu (fun i p=>Y2 p&&!(QV l i).any (Vm p.b)) 0 l
theorem WJ:(0≤(0:Int)∧(0:Int) < ((2:Nat):Int))=True:=by simp
theorem XL:(0≤(1:Int)∧(1:Int) < ((2:Nat):Int))=True:=by simp
theorem Z2Y (a17 a1:AV) (ha17:∀ n,bel n a17=true) (ha1:∀ n,bel n a1=true) (l:List Pair) (hl:l.length≤1000):
 ∃ fr' h',Zg rE [1,3,4,17,18,19,24,25,26] c60L0b [(1,a1),(3,.mp 0),(4,.int .i64 0),(17,a17),(18,.int .i64 2),(19,.int .i64 0),(24,.isl false false 2 (l.map Pair.enc)),(25,I l.length),(26,.int .i64 0)] [.map [] []] =
  some (if UB l=true then .exit 2 else .ret,fr',h')∧
  (UB l=true→(get fr' 1=a1∧get fr' 2=.bot∧get fr' 3=.mp 0∧get fr' 17=a17∧get fr' 18=.int .i64 2∧get fr' 19=.int .i64 0)∧∃ (K:List Int) (V:List Bool),V.length=K.length∧h'=[.map (K.map I) (Ye V)])∧(UB l=false→get fr' 2=.bool false∧get fr' 1=a1∧get fr' 3=.mp 0∧get fr' 17=a17∧get fr' 18=.int .i64 2∧get fr' 19=.int .i64 0):=by
 have hbA:∀ n (K:List Int),Zd n (K.map I)=true:=fun n K=>ZN _ (Zw (fun t=>rfl) K)
 have hbT:∀ n k,Zd n (ZO k)=true:=fun n k=>ZN _ (Ut k)
 have n0:((0:Int)).toNat=0:=rfl;have n1:((1:Int)).toNat=1:=rfl;have z0:((0:Int)==0)=true:=rfl;have L:=Jk (E:=rE) (live:=[1,3,4,17,18,19,24,25,26]) (b:=c60L0b) l (fun i p=>Y2 p&&!(QV l i).any (Vm p.b))
  (fun i=>[(1,a1),(3,.mp 0),(4,.int .i64 0),(17,a17),(18,.int .i64 2),(19,.int .i64 0),(24,.isl false false 2 (l.map Pair.enc)),(25,I l.length),(26,I i)])
  (fun i=>[.map ((QV l i).map I) (ZO (QV l i).length)]) 2
  (fun fr h=>(get fr 1=a1∧get fr 2=.bot∧get fr 3=.mp 0∧get fr 17=a17∧get fr 18=.int .i64 2∧get fr 19=.int .i64 0)∧h=[.map ((QV l l.length).map I) (ZO (QV l l.length).length)])
  (fun fr h=>get fr 2=.bool false∧get fr 1=a1∧get fr 3=.mp 0∧get fr 17=a17∧get fr 18=.int .i64 2∧get fr 19=.int .i64 0) (fun i=>rfl)
  (fun i x hx hP=>by
   have hg:=Z6 (f:=Pair.enc) hx;have hi:=Zh (Z7 hx);have hw:=Zx (n:=i) (by have:=Z7 hx;omega)
   have hf:QV l (i+1)=Qi Vm (QV l i) x.b:=Us _ [] hx;have hp:=fun hh=>Ur (ag:=false) (kk:=[1]) (enc:=I) (eq:=Vm) Wi (QV l i) x.b (h:=.map ((QV l i).map I) (ZO (QV l i).length)::hh) (b:=0) rfl
   have hq:=fun hh=>H5 (ag:=false) (kk:=[1]) (enc:=I) (eq:=Vm) Wi (QV l i) x.b (h:=.map ((QV l i).map I) (ZO (QV l i).length)::hh) (b:=0) rfl
   rw [hf];generalize QV l i=K at hp hq hP ⊢;simp only [Y2,ZO2,ZOn] at hP;obtain ⟨⟨h1,h2,h3⟩,h4⟩:=hP;refine ⟨_,by simp only [go_sem,qy,qq,qv,qk,c60L0b,hg,hi,hw,Pair.enc,WJ,XL,n0,n1,ZOM,if_true,Qc,h1,h2,h3,z0,hq,hp,h4,hbA,hbT,ha17,ha1];rfl,?_⟩
   simp only [go_sem,qy])
  (fun i x hx hP=>by
   have hg:=Z6 (f:=Pair.enc) hx;have hi:=Zh (Z7 hx);have hq:=fun hh=>H5 (ag:=false) (kk:=[1]) (enc:=I) (eq:=Vm) Wi (QV l i) x.b (h:=.map ((QV l i).map I) (ZO (QV l i).length)::hh) (b:=0) rfl
   generalize QV l i=K at hq hP ⊢;unfold Y2 at hP;cases h1:QM x.a 0 0 with
   | false=>
    refine ⟨_,_,by simp only [go_sem,qy,qq,qv,qk,c60L0b,hg,hi,Pair.enc,WJ,n0,ZOM,if_true,Qc,h1,hbA,hbT,ha17,ha1];rfl,?_⟩
    refine ⟨?_,?_,?_,?_,?_,?_⟩<;>simp only [go_sem,qy]
   | true=>
   cases h2:QM x.b 0 0 with
   | false=>
    refine ⟨_,_,by simp only [go_sem,qy,qq,qv,qk,c60L0b,hg,hi,Pair.enc,WJ,XL,n0,n1,ZOM,if_true,Qc,h1,h2,hbA,hbT,ha17,ha1];rfl,?_⟩
    refine ⟨?_,?_,?_,?_,?_,?_⟩<;>simp only [go_sem,qy]
   | true=>
   cases h3:x.a==x.b with
   | true=>
    refine ⟨_,_,by simp only [go_sem,qy,qq,qv,qk,c60L0b,hg,hi,Pair.enc,WJ,XL,n0,n1,ZOM,if_true,Qc,h1,h2,h3,hbA,hbT,ha17,ha1];rfl,?_⟩
    refine ⟨?_,?_,?_,?_,?_,?_⟩<;>simp only [go_sem,qy]
   | false=>
    have h4:K.any (Vm x.b)=true:=by simpa [h1,h2,h3] using hP
    refine ⟨_,_,by simp only [go_sem,qy,qq,qv,qk,c60L0b,hg,hi,Pair.enc,WJ,XL,n0,n1,ZOM,if_true,Qc,h1,h2,h3,z0,hq,h4,hbA,hbT,ha17,ha1];rfl,?_⟩
    refine ⟨?_,?_,?_,?_,?_,?_⟩<;>simp only [go_sem,qy])
  (⟨_,_,by simp only [go_sem,qy,qq,qv,reduceIte,c60L0b,ZG];rfl,by refine ⟨⟨?_,?_,?_,?_,?_,?_⟩,?_⟩<;>simp only [go_sem,qy]⟩)
 obtain ⟨fr',h',h1,h2,h3⟩:=L;refine ⟨fr',h',h1,fun h=>?_,h3⟩
 obtain ⟨h4,h5⟩:=h2 h;refine ⟨h4,QV l l.length,List.replicate (QV l l.length).length true,by simp,?_⟩
 rw [h5];simp [Ye,ZO]
theorem Z2Z (a17 a1:AV) (ha17:∀ n,bel n a17=true) (ha1:∀ n,bel n a1=true) (l:List Pair) (hl:l.length≤1000) (K0:List Int) (V0:List Bool) (hK0:V0.length=K0.length):
 ∃ fr' h',Zg rE [1,3,4,17,18,19,24,25,26] c60L0b [(1,a1),(3,.mp 0),(4,.int .i64 1),(17,a17),(18,.int .i64 2),(19,.int .i64 1),(24,.isl false false 2 (l.map Pair.enc)),(25,I l.length),(26,.int .i64 0)] [.map (K0.map I) (Ye V0)] =
  some (if l.all Y2=true then .exit 2 else .ret,fr',h')∧
  (l.all Y2=true→(get fr' 1=a1∧get fr' 2=.bot∧get fr' 3=.mp 0∧get fr' 17=a17∧get fr' 18=.int .i64 2∧get fr' 19=.int .i64 1)∧∃ o,h'=[o]∧∀ n,Zj n o=true)∧(l.all Y2=false→get fr' 2=.bool false∧get fr' 1=a1∧get fr' 3=.mp 0∧get fr' 17=a17∧get fr' 18=.int .i64 2∧get fr' 19=.int .i64 1):=by
 have hbA:∀ n (K:List Int),Zd n (K.map I)=true:=fun n K=>ZN _ (Zw (fun t=>rfl) K)
 have hbT:∀ n (V:List Bool),Zd n (Ye V)=true:=fun n V=>ZN _ (Zw (fun t=>rfl) V)
 have n0:((0:Int)).toNat=0:=rfl;have n1:((1:Int)).toNat=1:=rfl;have z0:((1:Int)==0)=false:=rfl
 suffices G:∀ (post pre:List Pair) (K:List Int) (V:List Bool),l=pre++post→V.length=K.length→
  ∃ fr' h',Zg rE [1,3,4,17,18,19,24,25,26] c60L0b [(1,a1),(3,.mp 0),(4,.int .i64 1),(17,a17),(18,.int .i64 2),(19,.int .i64 1),(24,.isl false false 2 (l.map Pair.enc)),(25,I l.length),(26,I pre.length)] [.map (K.map I) (Ye V)] =
  some (if post.all Y2=true then .exit 2 else .ret,fr',h')∧
  (post.all Y2=true→(get fr' 1=a1∧get fr' 2=.bot∧get fr' 3=.mp 0∧get fr' 17=a17∧get fr' 18=.int .i64 2∧get fr' 19=.int .i64 1)∧∃ o,h'=[o]∧∀ n,Zj n o=true)∧(post.all Y2=false→get fr' 2=.bool false∧get fr' 1=a1∧get fr' 3=.mp 0∧get fr' 17=a17∧get fr' 18=.int .i64 2∧get fr' 19=.int .i64 1) from G l [] K0 V0 rfl hK0
 intro post;induction post with
 | nil=>
  intro pre K V hp hKV;have hlen:l.length=pre.length:=by rw [hp];simp
  have hf:decide ((pre.length:Int) < (l.length:Int))=false:=by rw [hlen];exact ZG _
  refine ⟨_,_,Q7 rfl (by simp only [go_sem,qy,qq,reduceIte,c60L0b,hf];rfl) (by simp),fun _=>⟨?_,_,rfl,fun n=>by simp only [go_sem,hbA,hbT]⟩,fun h=>by simp at h⟩
  refine ⟨?_,?_,?_,?_,?_,?_⟩<;>simp only [go_sem,qy]
 | cons x post ih=>
  intro pre K V hp hKV;have hx:l[pre.length]? = some x:=by rw [hp];simp
  have hg:=Z6 (f:=Pair.enc) hx;have hi:=Zh (Z7 hx);have hlx:=Z7 hx;have hw:=Zx (n:=pre.length) (by omega)
  rw [ZP9];cases h1:QM x.a 0 0 with
  | false=>
   have hP:Y2 x=false:=by simp [Y2,h1]
   rw [hP,ZOG];refine ⟨_,_,Q7 rfl (by simp only [go_sem,qy,qq,qv,qk,c60L0b,hg,hi,Pair.enc,WJ,n0,ZOM,if_true,Qc,h1,hbA,hbT,ha17,ha1];rfl) (by simp),fun h=>(by cases h),fun _=>?_⟩
   refine ⟨?_,?_,?_,?_,?_,?_⟩<;>simp only [go_sem,qy]
  | true=>
  cases h2:QM x.b 0 0 with
  | false=>
   have hP:Y2 x=false:=by simp [Y2,h2]
   rw [hP,ZOG];refine ⟨_,_,Q7 rfl (by simp only [go_sem,qy,qq,qv,qk,c60L0b,hg,hi,Pair.enc,WJ,XL,n0,n1,ZOM,if_true,Qc,h1,h2,hbA,hbT,ha17,ha1];rfl) (by simp),fun h=>(by cases h),fun _=>?_⟩
   refine ⟨?_,?_,?_,?_,?_,?_⟩<;>simp only [go_sem,qy]
  | true=>
  cases h3:x.a==x.b with
  | true=>
   have hP:Y2 x=false:=by simp only [Y2,h3,ZO9,ZPv]
   rw [hP,ZOG];refine ⟨_,_,Q7 rfl (by simp only [go_sem,qy,qq,qv,qk,c60L0b,hg,hi,Pair.enc,WJ,XL,n0,n1,ZOM,if_true,Qc,h1,h2,h3,hbA,hbT,ha17,ha1];rfl) (by simp),fun h=>(by cases h),fun _=>?_⟩
   refine ⟨?_,?_,?_,?_,?_,?_⟩<;>simp only [go_sem,qy]
  | false=>
   have hP:Y2 x=true:=by simp only [Y2,h1,h2,h3,ZOm,ZOH]
   rw [hP,ZOq];obtain ⟨c,hq⟩:=Z2W K V hKV x.b (h:=[.map (K.map I) (Ye V),.row 2 [.agg [I x.a,I x.b]]]) (b:=0) rfl;obtain ⟨K',V',hKV',_,hput⟩:=Z2X K V hKV x.b c (h:=[.map (K.map I) (Ye V),.row 2 [.agg [I x.a,I x.b]]]) (b:=0) rfl;obtain ⟨fr',h',h4,h5⟩:=ih (pre++[x]) K' V' (by simp [hp]) hKV'
   refine ⟨fr',h',?_,h5⟩;rw [←h4];have hl1:((pre++[x]).length:Int)=((pre.length+1:Nat):Int):=by simp
   rw [hl1];cases c<;>exact (Yt rfl (by simp only [go_sem,qy,qq,qv,qk,c60L0b,hg,hi,hw,Pair.enc,WJ,XL,n0,n1,ZOM,if_true,Qc,h1,h2,h3,z0,hq,hput,hbA,hbT,ha17,ha1];rfl)).trans (by simp only [go_sem,qy])
def chN (s:Sta):Nat→Int→Bool
 | 0,at'=>!decide (at' ≥ 0)
 | k+1,at'=>bif decide (at' ≥ 0) then chN s k (XJ s at') else true
theorem Fl (s:Sta) (hs:StS s) (a71 a72 a73:AV) (h:Hp):∀ k n at',n+k=s.Merged.length+1→
 ∃ fr',Zg rE [1,10,11,71,72,73] c60L2b [(1,.iptr false [.isl false false 6 (s.Regions.map Region.enc),.isl false false 5 (s.Streets.map Street.enc),.isl false false 4 (s.Buildings.map Building.enc),.isl false false 16 (s.Doors.map Door.enc),.isl false false 6 (s.Units.map Unit'.enc),.isl false false 2 (s.Merged.map Pair.enc),.isl false false 2 (s.Rulings.map Pair.enc)]),(10,I at'),(11,I (n:Nat)),(71,a71),(72,a72),(73,a73)] h =
  some (if chN s k at'=true then .exit 6 else .ret,fr',h)∧(chN s k at'=true→get fr' 2=.bot∧get fr' 1=.iptr false [.isl false false 6 (s.Regions.map Region.enc),.isl false false 5 (s.Streets.map Street.enc),.isl false false 4 (s.Buildings.map Building.enc),.isl false false 16 (s.Doors.map Door.enc),.isl false false 6 (s.Units.map Unit'.enc),.isl false false 2 (s.Merged.map Pair.enc),.isl false false 2 (s.Rulings.map Pair.enc)]∧get fr' 71=a71∧get fr' 72=a72∧get fr' 73=a73)∧(chN s k at'=false→get fr' 2=.bool false∧get fr' 1=.iptr false [.isl false false 6 (s.Regions.map Region.enc),.isl false false 5 (s.Streets.map Street.enc),.isl false false 4 (s.Buildings.map Building.enc),.isl false false 16 (s.Doors.map Door.enc),.isl false false 6 (s.Units.map Unit'.enc),.isl false false 2 (s.Merged.map Pair.enc),.isl false false 2 (s.Rulings.map Pair.enc)]∧get fr' 71=a71∧get fr' 72=a72∧get fr' 73=a73):=by
 intro k;induction k with
 | zero=>
  intro n at' hn;unfold chN;cases h1:decide (at' ≥ 0) with
  | false=>
   refine ⟨_,Q7 rfl (by simp only [go_sem,qy,reduceIte,c60L2b,h1,GH];rfl) (by simp),fun _=>?_,fun hh=>(by simp at hh)⟩
   refine ⟨?_,?_,?_,?_,?_⟩<;>simp only [go_sem,qy]
  | true=>
   have h2:decide ((n:Int) > (s.Merged.length:Int))=true:=decide_eq_true (by omega)
   refine ⟨_,Q7 rfl (by simp only [go_sem,qy,reduceIte,c60L2b,h1,h2,GH];rfl) (by simp),fun hh=>(by simp at hh),fun _=>?_⟩
   refine ⟨?_,?_,?_,?_,?_⟩<;>simp only [go_sem,qy]
 | succ k ih=>
  intro n at' hn;unfold chN;cases h1:decide (at' ≥ 0) with
  | false=>
   refine ⟨_,Q7 rfl (by simp only [go_sem,qy,reduceIte,c60L2b,h1,GH];rfl) (by simp),fun _=>?_,fun hh=>(by simp at hh)⟩
   refine ⟨?_,?_,?_,?_,?_⟩<;>simp only [go_sem,qy]
  | true=>
   have h2:decide ((n:Int) > (s.Merged.length:Int))=false:=decide_eq_false (by omega)
   have hm:=hs.merged;have hw:=Zx (n:=n) (by omega)
   have ht:=NJ s hs at';obtain ⟨fr',h3,h4⟩:=ih (n+1) (XJ s at') (by omega)
   rw [cond_true];refine ⟨fr',?_,h4⟩;rw [←h3];exact (Yt rfl (by simp only [go_sem,qy,qq,qk,reduceIte,c60L2b,h1,h2,hw,ht,GH];rfl)).trans (by simp only [go_sem,qy])
def WK (s:Sta):Bool:=UB s.Merged&&(s.Rulings.all Y2&&s.Merged.all (fun p=>chN s (s.Merged.length+1) p.b))
theorem Z30 (s:Sta) (hs:StS s) (o:AObj) (ho:∀ n,Zj n o=true):
 ∃ fr',Zg rE [1,71,72,73] c60L3b [(1,.iptr false [.isl false false 6 (s.Regions.map Region.enc),.isl false false 5 (s.Streets.map Street.enc),.isl false false 4 (s.Buildings.map Building.enc),.isl false false 16 (s.Doors.map Door.enc),.isl false false 6 (s.Units.map Unit'.enc),.isl false false 2 (s.Merged.map Pair.enc),.isl false false 2 (s.Rulings.map Pair.enc)]),(71,.isl false false 2 (s.Merged.map Pair.enc)),(72,I s.Merged.length),(73,.int .i64 0)] [o] =
  some (if s.Merged.all (fun p=>chN s (s.Merged.length+1) p.b)=true then .exit 4 else .ret,fr',[o])∧(s.Merged.all (fun p=>chN s (s.Merged.length+1) p.b)=false→get fr' 2=.bool false):=by
 have n1:((1:Int)).toNat=1:=rfl;generalize ha:AV.iptr false [.isl false false 6 (s.Regions.map Region.enc),.isl false false 5 (s.Streets.map Street.enc),.isl false false 4 (s.Buildings.map Building.enc),.isl false false 16 (s.Doors.map Door.enc),.isl false false 6 (s.Units.map Unit'.enc),.isl false false 2 (s.Merged.map Pair.enc),.isl false false 2 (s.Rulings.map Pair.enc)]=a;have hba:∀ n,bel n a=true:=fun n=>by rw [←ha];rfl
 have L:=Uf (E:=rE) (live:=[1,71,72,73]) (b:=c60L3b) (h:=[o]) s.Merged (fun _ p=>chN s (s.Merged.length+1) p.b) (fun i=>[(1,a),(71,.isl false false 2 (s.Merged.map Pair.enc)),(72,I s.Merged.length),(73,I i)]) 4 (fun fr=>get fr 2=.bool false) (fun i=>rfl)
  (fun i x hx hP=>by
   have hg:=Z6 (f:=Pair.enc) hx;have hi:=Zh (Z7 hx);have hw:=Zx (n:=i) (by have:=Z7 hx;have:=hs.merged;omega)
   obtain ⟨fr',h1,h2,_⟩:=Fl s hs (.isl false false 2 (s.Merged.map Pair.enc)) (I s.Merged.length) (I i) [o,.row 2 [.agg [I x.a,I x.b]]] (s.Merged.length+1) 0 x.b (by omega)
   rw [hP,if_pos rfl,ha] at h1;obtain ⟨q2,q1,q71,q72,q73⟩:=h2 hP;rw [ha] at q1;have h1':Zg rE [1,10,11,71,72,73] c60L2b [(1,a),(10,I x.b),(11,.int .i64 0),(71,.isl false false 2 (s.Merged.map Pair.enc)),(72,I s.Merged.length),(73,I i)] [o,.row 2 [.agg [I x.a,I x.b]]]=_:=h1;refine ⟨_,by simp only [go_sem,qy,qq,qv,qk,c60L3b,c60L2,hg,hi,hw,Pair.enc,XL,n1,ZOM,if_true,h1',q1,q2,q71,q72,q73,ho,hba];rfl,?_⟩
   simp only [go_sem,qy])
  (fun i x hx hP=>by
   have hg:=Z6 (f:=Pair.enc) hx;have hi:=Zh (Z7 hx);obtain ⟨fr',h1,_,h2⟩:=Fl s hs (.isl false false 2 (s.Merged.map Pair.enc)) (I s.Merged.length) (I i) [o,.row 2 [.agg [I x.a,I x.b]]] (s.Merged.length+1) 0 x.b (by omega)
   rw [hP,ha] at h1;obtain ⟨q2,q1,q71,q72,q73⟩:=h2 hP;rw [ha] at q1;have h1':Zg rE [1,10,11,71,72,73] c60L2b [(1,a),(10,I x.b),(11,.int .i64 0),(71,.isl false false 2 (s.Merged.map Pair.enc)),(72,I s.Merged.length),(73,I i)] [o,.row 2 [.agg [I x.a,I x.b]]]=_:=h1;refine ⟨_,by simp only [go_sem,qy,qq,qv,qk,reduceIte,c60L3b,c60L2,hg,hi,Pair.enc,XL,n1,ZOM,if_true,h1',q1,q2,q71,q72,q73,ho,hba,ZOd];rfl,?_⟩
   simp only [go_sem,qy])
  (⟨_,by simp only [go_sem,qy,qq,reduceIte,c60L3b,ZG];rfl⟩)
 rw [QE] at L;exact L
theorem Z31 (s:Sta) (hs:StS s):pfn rE 60 [stA s]=some (.bool (WK s)):=by
 have hbA:∀ n (K:List Int),Zd n (K.map I)=true:=fun n K=>ZN _ (Zw (fun t=>rfl) K)
 have hbT:∀ n (V:List Bool),Zd n (Ye V)=true:=fun n V=>ZN _ (Zw (fun t=>rfl) V)
 have e0:ixG [AV.isl false false 2 (s.Merged.map Pair.enc),.isl false false 2 (s.Rulings.map Pair.enc)] 0=some (.isl false false 2 (s.Merged.map Pair.enc)):=rfl;have e1:ixG [AV.isl false false 2 (s.Merged.map Pair.enc),.isl false false 2 (s.Rulings.map Pair.enc)] 1=some (.isl false false 2 (s.Rulings.map Pair.enc)):=rfl;have d02:decide ((0:Int) < 2)=true:=rfl;have d12:decide ((1:Int) < 2)=true:=rfl;have d22:decide ((2:Int) < 2)=false:=rfl;have w0:IntKind.i64.wrap ((0:Int)+1)=1:=rfl;have w1:IntKind.i64.wrap ((1:Int)+1)=2:=rfl;have c2:(((0+1+1:Nat):Nat):Int)=2:=rfl;have c2':((2:Nat):Int)=2:=rfl;obtain ⟨f1,g1,hm1,hm2,hm3⟩:=Z2Y (.isl false false 1 [.isl false false 2 (s.Merged.map Pair.enc),.isl false false 2 (s.Rulings.map Pair.enc)]) (.iptr false [.isl false false 6 (s.Regions.map Region.enc),.isl false false 5 (s.Streets.map Street.enc),.isl false false 4 (s.Buildings.map Building.enc),.isl false false 16 (s.Doors.map Door.enc),.isl false false 6 (s.Units.map Unit'.enc),.isl false false 2 (s.Merged.map Pair.enc),.isl false false 2 (s.Rulings.map Pair.enc)]) (fun n=>rfl) (fun n=>rfl) s.Merged hs.merged
 rw [Z5 (f:=60) rfl rfl];unfold WK;cases c1:UB s.Merged with
 | false=>
  rw [c1] at hm1;obtain ⟨q2,q1,q3,q17,q18,q19⟩:=hm3 c1;have R:∃ fr h,Zg rE [1,3,17,18,19] c60L1b [(1,.iptr false [.isl false false 6 (s.Regions.map Region.enc),.isl false false 5 (s.Streets.map Street.enc),.isl false false 4 (s.Buildings.map Building.enc),.isl false false 16 (s.Doors.map Door.enc),.isl false false 6 (s.Units.map Unit'.enc),.isl false false 2 (s.Merged.map Pair.enc),.isl false false 2 (s.Rulings.map Pair.enc)]),(3,.mp 0),(17,.isl false false 1 [.isl false false 2 (s.Merged.map Pair.enc),.isl false false 2 (s.Rulings.map Pair.enc)]),(18,.int .i64 2),(19,.int .i64 0)] [.map [] []]=some (.ret,fr,h)∧get fr 2=.bool false:=by
   refine ⟨_,_,Q7 rfl (by simp only [go_sem,qy,qq,qv,reduceIte,c60L1b,c60L0,e0,d02,hm1,q1,q2,q3,q17,q18,q19,ZOd];rfl) (by simp),?_⟩
   simp only [go_sem,qy]
  obtain ⟨fr,h,hR,hq⟩:=R;simp only [go_sem,qy,qq,qv,c60,c60L1,c2',hR,hq]
 | true=>
  rw [c1,if_pos rfl] at hm1;obtain ⟨⟨q1,q2,q3,q17,q18,q19⟩,K,V,hKV,rfl⟩:=hm2 c1;obtain ⟨f2,g2,hr1,hr2,hr3⟩:=Z2Z (.isl false false 1 [.isl false false 2 (s.Merged.map Pair.enc),.isl false false 2 (s.Rulings.map Pair.enc)]) (.iptr false [.isl false false 6 (s.Regions.map Region.enc),.isl false false 5 (s.Streets.map Street.enc),.isl false false 4 (s.Buildings.map Building.enc),.isl false false 16 (s.Doors.map Door.enc),.isl false false 6 (s.Units.map Unit'.enc),.isl false false 2 (s.Merged.map Pair.enc),.isl false false 2 (s.Rulings.map Pair.enc)]) (fun n=>rfl) (fun n=>rfl) s.Rulings hs.rulings K V hKV
  have R1:=Yt (E:=rE) (live:=[1,3,17,18,19]) (b:=c60L1b) (fr:=[(1,.iptr false [.isl false false 6 (s.Regions.map Region.enc),.isl false false 5 (s.Streets.map Street.enc),.isl false false 4 (s.Buildings.map Building.enc),.isl false false 16 (s.Doors.map Door.enc),.isl false false 6 (s.Units.map Unit'.enc),.isl false false 2 (s.Merged.map Pair.enc),.isl false false 2 (s.Rulings.map Pair.enc)]),(3,.mp 0),(17,.isl false false 1 [.isl false false 2 (s.Merged.map Pair.enc),.isl false false 2 (s.Rulings.map Pair.enc)]),(18,.int .i64 2),(19,.int .i64 0)]) (h:=[.map [] []]) rfl (by simp only [go_sem,qy,qq,qv,reduceIte,c60L1b,c60L0,e0,d02,w0,hm1,q1,q2,q3,q17,q18,q19];rfl)
  simp only [go_sem,qy] at R1;cases c5003:s.Rulings.all Y2 with
  | false=>
   rw [c5003] at hr1;obtain ⟨p2,p1,p3,p17,p18,p19⟩:=hr3 c5003;have R:∃ fr h,Zg rE [1,3,17,18,19] c60L1b [(1,.iptr false [.isl false false 6 (s.Regions.map Region.enc),.isl false false 5 (s.Streets.map Street.enc),.isl false false 4 (s.Buildings.map Building.enc),.isl false false 16 (s.Doors.map Door.enc),.isl false false 6 (s.Units.map Unit'.enc),.isl false false 2 (s.Merged.map Pair.enc),.isl false false 2 (s.Rulings.map Pair.enc)]),(3,.mp 0),(17,.isl false false 1 [.isl false false 2 (s.Merged.map Pair.enc),.isl false false 2 (s.Rulings.map Pair.enc)]),(18,.int .i64 2),(19,.int .i64 1)] [.map (K.map I) (Ye V)]=some (.ret,fr,h)∧get fr 2=.bool false:=by
    refine ⟨_,_,Q7 rfl (by simp only [go_sem,qy,qq,qv,reduceIte,c60L1b,c60L0,e1,d12,hr1,p1,p2,p3,p17,p18,p19,ZOd];rfl) (by simp),?_⟩
    simp only [go_sem,qy]
   obtain ⟨fr,h,hR,hq⟩:=R;simp only [go_sem,qy,qq,qv,c60,c60L1,c2',R1,hR,hq]
  | true=>
   rw [c5003,if_pos rfl] at hr1;obtain ⟨⟨p1,p2,p3,p17,p18,p19⟩,o,rfl,ho⟩:=hr2 c5003;have R2:=Yt (E:=rE) (live:=[1,3,17,18,19]) (b:=c60L1b) (fr:=[(1,.iptr false [.isl false false 6 (s.Regions.map Region.enc),.isl false false 5 (s.Streets.map Street.enc),.isl false false 4 (s.Buildings.map Building.enc),.isl false false 16 (s.Doors.map Door.enc),.isl false false 6 (s.Units.map Unit'.enc),.isl false false 2 (s.Merged.map Pair.enc),.isl false false 2 (s.Rulings.map Pair.enc)]),(3,.mp 0),(17,.isl false false 1 [.isl false false 2 (s.Merged.map Pair.enc),.isl false false 2 (s.Rulings.map Pair.enc)]),(18,.int .i64 2),(19,.int .i64 1)]) (h:=[.map (K.map I) (Ye V)]) rfl (by simp only [go_sem,qy,qq,qv,reduceIte,c60L1b,c60L0,e1,d12,w1,hr1,p1,p2,p3,p17,p18,p19];rfl)
   simp only [go_sem,qy] at R2;have R3:=Q7 (E:=rE) (live:=[1,3,17,18,19]) (b:=c60L1b) (fr:=[(1,.iptr false [.isl false false 6 (s.Regions.map Region.enc),.isl false false 5 (s.Streets.map Street.enc),.isl false false 4 (s.Buildings.map Building.enc),.isl false false 16 (s.Doors.map Door.enc),.isl false false 6 (s.Units.map Unit'.enc),.isl false false 2 (s.Merged.map Pair.enc),.isl false false 2 (s.Rulings.map Pair.enc)]),(3,.mp 0),(17,.isl false false 1 [.isl false false 2 (s.Merged.map Pair.enc),.isl false false 2 (s.Rulings.map Pair.enc)]),(18,.int .i64 2),(19,.int .i64 2)]) (h:=[o]) rfl (by simp only [go_sem,qy,qq,qv,reduceIte,c60L1b,d22];rfl) (by simp)
   obtain ⟨f4,h4,h5⟩:=Z30 s hs o ho;cases c5004:s.Merged.all (fun p=>chN s (s.Merged.length+1) p.b) with
   | true=>rw [c5004,if_pos rfl] at h4;simp only [go_sem,qy,qq,qv,c60,c60L1,c60L3,c2',R1,R2,R3,h4]
   | false=>rw [c5004] at h4;simp only [go_sem,qy,qq,qv,reduceIte,c60,c60L1,c60L3,c2',R1,R2,R3,h4,h5 c5004,ZOd]
end Go.AM
namespace Go.AM
open Go
theorem c58_eq:c58=.seq s58p0 (.seq s58p1 (.seq s58p2 (.seq s58p3 (.seq s58p4 (.seq s58p5 (.seq s58p6 (.seq s58p7 (.seq s58p8 (.seq s58p9 (.seq s58p10 .ret)))))))))):=rfl
def Zo (d:Door):AV:=.agg [.str d.Id,.str d.Building,.str d.Street,I d.Owner,I d.Number.N,.str d.Number.Letter,I d.Number.Num,I d.Number.Den,I d.Point.X,I d.Point.Y,I d.From,I d.Ended,.isl false d.After.ex 1 (d.After.l.map encS),I d.Why,I d.Office,.str d.Veil]
def exD (d:Door):Bool:=d.Ended==-1
def K8 (s:Sta) (i:Int) (d:Door):Bool:=d.After.l.all fun id=>!decide (Zn s id≤i)
def Yf (d:Door):Int:=(d.After.l.length:Int)
def He (d:Door):Bool:=
 bif d.Why==12 then Yf d==0 else bif d.Why==11 then Yf d==0&&Z3 d.Veil emp else bif d.Why==9 then ZD (Yf d) 2 8&&Z3 d.Veil emp else bif d.Why==10 then Yf d==1&&Z3 d.Veil emp else false
def UC (d:Door):Bool:=(((!(exD d==(d.Why==0)))||(exD d&&decide (Yf d > 0)))||(!exD d&&!He d))||!Jq d.After.l
def NM (d:Door):Event:=⟨0,0,0,0,d.Office,d.Id,emp,d.Veil,⟨false,[]⟩,⟨false,[]⟩,⟨0,emp,0,0⟩,⟨0,0⟩,⟨false,[]⟩,⟨false,[]⟩⟩
def Hf (d:Door):Event:=⟨0,0,0,0,0,d.Id,d.Building,d.Street,⟨false,[]⟩,⟨false,[]⟩,d.Number,d.Point,⟨false,[]⟩,⟨false,[]⟩⟩
def NN (d:Door):Bool:=Z3 d.Building emp&&(Z3 d.Street emp&&(QL d.Number ⟨0,emp,0,0⟩&&(QK d.Point ⟨0,0⟩&&Q9 { NM d with Kind:=15 })))
def WL (s:Sta) (k:Int):Int:=match s.Buildings[k.toNat]? with | some b=>b.Ended | none=>0
def QF (s:Sta) (k:Int):Int:=match s.Streets[k.toNat]? with | some b=>b.Ended | none=>0
def NO (s:Sta) (d:Door):Bool:=((d.Office != 0||decide (Y1 s d.Building < 0))||decide (ZL s d.Street < 0))||(exD d&&(WL s (Y1 s d.Building) != -1||QF s (ZL s d.Street) != -1))
def Hg (s:Sta) (i:Int) (d:Door):Bool:=
 K8 s i d&&(!UC d&&(bif Z3 d.Veil emp then !NO s d&&Q9 { Hf d with Kind:=6 } else NN d))
structure DoS (d:Door):Prop where
 after:d.After.l.length≤100
 id:d.Id.size≤1000
 building:d.Building.size≤1000
 street:d.Street.size≤1000
 veil:d.Veil.size≤1000
abbrev stI (s:Sta):AV:=.iptr false [.isl false false 6 (s.Regions.map Region.enc),.isl false false 5 (s.Streets.map Street.enc),.isl false false 4 (s.Buildings.map Building.enc),.isl false false 16 (s.Doors.map Door.enc),.isl false false 6 (s.Units.map Unit'.enc),.isl false false 2 (s.Merged.map Pair.enc),.isl false false 2 (s.Rulings.map Pair.enc)]
theorem Z32 (s:Sta) (hs:StS s) (i:Int) (d:Door) (hd:DoS d):∃ fr',Zg rE [1,2,5,6,22,23,24] c58L0b [(1,I i),(2,stI s),(5,.ptr 0 0 0 1),(6,.bool (exD d)),(22,.isl false d.After.ex 1 (d.After.l.map encS)),(23,I d.After.l.length),(24,.int .i64 0)] [.row 16 [Zo d]] =
 some (if K8 s i d=true then .exit 0 else .ret,fr',[.row 16 [Zo d]])∧(K8 s i d=true→get fr' 2=stI s∧get fr' 4=.bot∧get fr' 5=.ptr 0 0 0 1∧get fr' 6=.bool (exD d))∧(K8 s i d=false→get fr' 4=.bool false):=by
 have L:=QT (E:=rE) (live:=[1,2,5,6,22,23,24]) (b:=c58L0b) (h:=[.row 16 [Zo d]]) d.After.l (fun _ id=>!decide (Zn s id≤i))
  (fun j=>[(1,I i),(2,stI s),(5,.ptr 0 0 0 1),(6,.bool (exD d)),(22,.isl false d.After.ex 1 (d.After.l.map encS)),(23,I d.After.l.length),(24,I j)]) 0
  (fun fr=>get fr 2=stI s∧get fr 4=.bot∧get fr 5=.ptr 0 0 0 1∧get fr 6=.bool (exD d)) (fun fr=>get fr 4=.bool false) (fun j=>rfl)
  (fun j x hx hP=>by
   have hg:=Z6 (f:=encS) hx;have hi:=Zh (Z7 hx);have hw:=Zx (n:=j) (by have:=Z7 hx;have:=hd.after;omega)
   have hf:=find_ok s hs x;have hP':decide (Zn s x≤i)=false:=by simpa using hP
   refine ⟨_,by simp only [go_sem,qy,qq,qv,qk,reduceIte,c58L0b,hg,hi,hw,encS,hf,hP'];rfl,?_⟩
   simp only [go_sem,qy])
  (fun j x hx hP=>by
   have hg:=Z6 (f:=encS) hx;have hi:=Zh (Z7 hx);have hf:=find_ok s hs x;have hP':decide (Zn s x≤i)=true:=by simpa using hP
   refine ⟨_,by simp only [go_sem,qy,qq,qv,qk,reduceIte,c58L0b,hg,hi,encS,hf,hP'];rfl,?_⟩
   simp only [go_sem,qy])
  (⟨_,by simp only [go_sem,qy,qq,qv,reduceIte,c58L0b,ZG];rfl,by refine ⟨?_,?_,?_,?_⟩<;>simp only [go_sem,qy]⟩)
 rw [QE] at L;exact L
theorem Fm (s:Sta) (hs:StS s) (i:Nat) (d:Door) (hd:DoS d) (hx:s.Doors[i]? = some d) (rest:ACode):
 (K8 s i d=true→Zb rE (.seq s58p0 (.seq s58p1 (.seq s58p2 (.seq s58p3 rest)))) [(0,stA s),(1,I i)] []=Zb rE rest [(2,stI s),(4,.bot),(5,.ptr 0 0 0 1),(6,.bool (exD d))] [.row 16 [Zo d]])∧
 (K8 s i d=false→∃ fr h,Zb rE (.seq s58p0 (.seq s58p1 (.seq s58p2 (.seq s58p3 rest)))) [(0,stA s),(1,I i)] []=some (.ret,fr,h)∧get fr 4=.bool false):=by
 obtain ⟨fr',h1,h2,h3⟩:=Z32 s hs i d hd;have hg:=Z6 (f:=Door.enc) hx;have hex:(d.Ended==-1)=exD d:=rfl;unfold Zo at h1 ⊢;constructor
 ·intro ha;rw [if_pos ha] at h1;obtain ⟨q2,q4,q5,q6⟩:=h2 ha;simp only [go_sem,qy,qq,qv,qk,reduceIte,s58p0,s58p1,s58p2,s58p3,c58L0,hg,Door.enc,NL.enc,hex,h1,q2,q4,q5,q6]
 ·intro ha;rw [ha] at h1;have q4:=h3 ha;simp only [ZOd,if_false] at h1;refine ⟨_,_,by simp only [go_sem,qy,qq,qv,qk,reduceIte,s58p0,s58p1,s58p2,s58p3,c58L0,hg,Door.enc,NL.enc,hex,h1,q4];rfl,?_⟩
  simp only [go_sem,qy]
def XM (d:Door):AObj:=.map [.int .i64 12,.int .i64 11,.int .i64 9,.int .i64 10] [.bool (Yf d==0),.bool (Yf d==0&&Z3 d.Veil emp),.bool (ZD (Yf d) 2 8&&Z3 d.Veil emp),.bool (Yf d==1&&Z3 d.Veil emp)]
theorem Z33 (a1 a2:Bool) (r1 r2:List Nat) (w1 w2:Option Nat) (k v j u:AV):Kp ⟨a1,r1,w1,some (k,v)⟩ ⟨a2,r2,w2,some (j,u)⟩=YF k j:=(rfl)
theorem Fo (a b:Int):YF (.int .i64 a) (.int .i64 b)=(a != b):=by simp [YF]
theorem Z34 (x:AObj) (ks vs:List AV) (k:Int) (v:AV) (hk:ZW false [1] (I k) ks 0=some none):YK [x,.map ks vs] false [1] (.mp 1) (I k) v=some (.bot,[x,.map (ks++[I k]) (vs++[v])]):=by
 simp only [YK,ZOR,ZOC,Yo,Wi,hk,ZM,ZH,GN,GM]
def Js (b:Nat) (v:AV):Bool:=match v with | .mp c=>c==b | _=>false
theorem Z35 (b:Nat):Js b (.mp b)=true:=by simp [Js]
theorem Z36 {b:Nat} {v:AV} (h:Js b v=true):v=.mp b:=by
 cases v with
 | mp c=>have:c=b:=by simpa [Js] using h
         rw [this]
 | _=>simp [Js] at h
theorem Z37 (fr:Fr) (x:AObj) (ks vs:List AV) (k:Int) (t:Nat) (h37':Js 1 (get fr 37)=true) (hk:ZW false [1] (I k) ks 0=some none) (htn:t≠37):
 Za rE (.ins false [1] (.t 37) (.c (.int .i64 k)) (.t t)) fr [x,.map ks vs]=⟨false,[],some 1,some (I k,get fr t)⟩:=by
 have h37:=Z36 h37';obtain ⟨v,ht⟩:∃ v,get fr t=v:=⟨_,rfl⟩;rw [ht];have e37:get (Z2 (AOp.ins false [1] (.t 37) (.c (.int .i64 k)) (.t t)).slots fr) 37=.mp 1:=by
  simp [AOp.slots,Arg.slots,Z2,get,h37]
 have et:get (Z2 (AOp.ins false [1] (.t 37) (.c (.int .i64 k)) (.t t)).slots fr) t=v:=by
  have:(37==t)=false:=by rw [beq_eq_false_iff_ne];exact fun h=>htn h.symm
  simp [AOp.slots,Arg.slots,Z2,get,this,ht]
 have hne:YF (I k) (I k)=false:=by rw [Fo];simp
 have hd:Za rE (.ins false [1] (.t 37) (.c (.int .i64 k)) (.t t)) fr [x,.map ks vs]=QG rE (Z2 (AOp.ins false [1] (.t 37) (.c (.int .i64 k)) (.t t)).slots fr) [x,.map ks vs] (.ins false [1] (.t 37) (.c (.int .i64 k)) (.t t)) (match Z8 rE (Z2 (AOp.ins false [1] (.t 37) (.c (.int .i64 k)) (.t t)).slots fr) [x,.map ks vs] ([x,.map ks vs]:Hp).length (.ins false [1] (.t 37) (.c (.int .i64 k)) (.t t)) with | some r=>r.2.2 | none=>none):=rfl
 rw [hd];generalize Z2 (AOp.ins false [1] (.t 37) (.c (.int .i64 k)) (.t t)).slots fr=f at e37 et;have ho:Z8 rE f [x,.map ks vs] ([x,.map ks vs]:Hp).length (.ins false [1] (.t 37) (.c (.int .i64 k)) (.t t))=some (.bot,[1],some (1,.map (ks++[I k]) (vs++[v]))):=by
  simp only [Z8,ev,e37,et,ZOR,ZOC,Yo,Wi,hk]
 have hi:Wm rE f [x,.map ks vs] (.ins false [1] (.t 37) (.c (.int .i64 k)) (.t t))=some (I k,v):=by
  simp only [Wm,ev,e37,et,ZOR,ZOC,hk,hne,cond_false]
 rw [ho];simp only [QG,hi,ZOB]
theorem Z38 (s:Sta) (d:Door) (rest:ACode):
 Zb rE (.seq s58p4 (.seq s58p5 rest)) [(2,stI s),(4,.bot),(5,.ptr 0 0 0 1),(6,.bool (exD d))] [.row 16 [Zo d]] =
  Zb rE rest [(2,stI s),(5,.ptr 0 0 0 1),(6,.bool (exD d)),(9,I (Yf d)),(10,.mp 1)] [.row 16 [Zo d],XM d]:=by
 have hn:((d.After.l.length:Nat):Int)=Yf d:=rfl;have f1:ZW false [1] (.int .i64 12) [] 0=some none:=rfl;have f2:ZW false [1] (.int .i64 11) [.int .i64 12] 0=some none:=rfl;have f3:ZW false [1] (.int .i64 9) [.int .i64 12,.int .i64 11] 0=some none:=rfl;have f4:ZW false [1] (.int .i64 10) [.int .i64 12,.int .i64 11,.int .i64 9] 0=some none:=rfl;have n1:((11:Int) != 12)=true:=rfl;have n2:((9:Int) != 12)=true:=rfl;have n3:((9:Int) != 11)=true:=rfl;have n4:((10:Int) != 12)=true:=rfl;have n5:((10:Int) != 11)=true:=rfl;have n6:((10:Int) != 9)=true:=rfl;have b1:∀ x:AV,Zd 1 [x]=bel 1 x:=fun x=>by simp [Zd]
 unfold XM Zo;cases c1:Yf d==0<;>cases c2:Yf d==1<;>cases c5003:ZD (Yf d) 2 8<;>cases c5004:Z3 d.Veil emp<;>
  simp only [go_sem,qy,qq,qv,qk,reduceIte,s58p4,s58p5,hn,c1,c2,c5003,c5004,DY,Z37,Z35,Z34,f1,f2,f3,f4,Z33,Fo,n1,n2,n3,n4,n5,n6,ne_eq,Nat.reduceEqDiff,not_false_eq_true]
theorem Z39 (d:Door) (x:AObj):W5 [x,XM d] false [1] false (.bool false) (.mp 1) (I d.Why)=some (.bool (He d)):=by
 unfold XM He;simp only [W5,ZOR,ZOC,QW,Wi,ZW];cases c1:d.Why==12<;>cases c2:d.Why==11<;>cases c5003:d.Why==9<;>cases c5004:d.Why==10<;>rfl
set_option maxHeartbeats 4000000 in
theorem Fp (s:Sta) (d:Door) (hd:DoS d) (rest:ACode):
 (UC d=false→Zb rE (.seq s58p6 rest) [(2,stI s),(5,.ptr 0 0 0 1),(6,.bool (exD d)),(9,I (Yf d)),(10,.mp 1)] [.row 16 [Zo d],XM d]=Zb rE rest [(2,stI s),(5,.ptr 0 0 0 1),(6,.bool (exD d)),(90,.bool false)] [.row 16 [Zo d],XM d])∧
 (UC d=true→∃ fr h,Zb rE (.seq s58p6 rest) [(2,stI s),(5,.ptr 0 0 0 1),(6,.bool (exD d)),(9,I (Yf d)),(10,.mp 1)] [.row 16 [Zo d],XM d]=some (.ret,fr,h)∧get fr 4=.bool false):=by
 have hg:=Z39 d;have hso:=Fj d.After.l d.After.ex (by have:=hd.after;omega)
 have t1:(true==true)=true:=rfl;have t2:(true==false)=false:=rfl;have t3:(false==true)=false:=rfl;have t4:(false==false)=true:=rfl;generalize XM d=m at hg ⊢;unfold UC Zo;cases c1:exD d<;>cases c2:d.Why==0<;>cases c5003:decide (Yf d > 0)<;>cases c5004:He d<;>cases c5005:Jq d.After.l<;>rw [c5004] at hg<;>rw [c5005] at hso<;>
  (constructor<;>intro hb<;>first | (exact absurd hb (by decide)) | skip)
 all_goals first
  | (simp only [go_sem,qy,qq,reduceIte,s58p6,c2,c5003,hg,hso,t1,t2,t3,t4];done)
  | (refine ⟨_,_,by simp only [go_sem,qy,qq,reduceIte,s58p6,c2,c5003,hg,hso,t1,t2,t3,t4];rfl,?_⟩;simp only [go_sem,qy])
theorem Z3a (d:Door) (hd:DoS d):EvS (NM d):=⟨ZO5 _,ZO5 _,ZO5 _,ZO5 _,hd.id,ZO5 _,hd.veil⟩
theorem Z3b (d:Door) (hd:DoS d):EvS (Hf d):=⟨ZO5 _,ZO5 _,ZO5 _,ZO5 _,hd.id,hd.building,hd.street⟩
theorem Fq (s:Sta) (d:Door) (hd:DoS d) (m:AObj) (rest:ACode):
 (Z3 d.Veil emp=true→Zb rE (.seq s58p7 rest) [(2,stI s),(5,.ptr 0 0 0 1),(6,.bool (exD d)),(90,.bool false)] [.row 16 [Zo d],m]=Zb rE rest [(2,stI s),(5,.ptr 0 0 0 1),(6,.bool (exD d)),(93,.bool false)] [.row 16 [Zo d],m])∧
 (Z3 d.Veil emp=false→∃ fr h,Zb rE (.seq s58p7 rest) [(2,stI s),(5,.ptr 0 0 0 1),(6,.bool (exD d)),(90,.bool false)] [.row 16 [Zo d],m]=some (.ret,fr,h)∧get fr 4=.bool (NN d)):=by
 have hm:=Wg 15 (NM d) (Z3a d hd);have hm':pfn rE 57 [I 15,.agg [I 0,I 0,I 0,I 0,I d.Office,.str d.Id,.str emp,.str d.Veil,.isl false false 1 [],.isl false false 3 [],I 0,.str emp,I 0,I 0,I 0,I 0,.isl false false 2 [],.isl false false 7 []]]=_:=hm;have hn4:(d.Number.N==0&&(Z3 d.Number.Letter emp&&(d.Number.Num==0&&d.Number.Den==0)))=QL d.Number ⟨0,emp,0,0⟩:=rfl;have hn5:(d.Point.X==0&&d.Point.Y==0)=QK d.Point ⟨0,0⟩:=rfl;unfold NN Zo;constructor
 ·intro hv;simp only [go_sem,qy,qq,s58p7,hv]
 ·intro hv;cases c1:Z3 d.Building emp with
  | false=>refine ⟨_,_,by simp only [go_sem,qy,qq,s58p7,hv,c1];rfl,?_⟩;simp only [go_sem,qy]
  | true=>
  cases c2:Z3 d.Street emp with
  | false=>refine ⟨_,_,by simp only [go_sem,qy,qq,s58p7,hv,c1,c2];rfl,?_⟩;simp only [go_sem,qy]
  | true=>
  cases c5003:QL d.Number ⟨0,emp,0,0⟩ with
  | false=>refine ⟨_,_,by simp only [go_sem,qy,qq,qv,qk,reduceIte,s58p7,hv,c1,c2,hn4,c5003];rfl,?_⟩;simp only [go_sem,qy]
  | true=>
  cases c5004:QK d.Point ⟨0,0⟩ with
  | false=>refine ⟨_,_,by simp only [go_sem,qy,qq,qv,qk,reduceIte,s58p7,hv,c1,c2,hn4,c5003,hn5,c5004];rfl,?_⟩;simp only [go_sem,qy]
  | true=>refine ⟨_,_,by simp only [go_sem,qy,qq,qv,qk,reduceIte,s58p7,hv,c1,c2,hn4,c5003,hn5,c5004,hm'];rfl,?_⟩;simp only [go_sem,qy]
theorem QC {α:Type} {P:α→Bool} {l:List α} (h:decide (Zp P l 0 < 0)=false):∃ (j:Nat) (x:α),Zp P l 0=(j:Int)∧l[j]? = some x:=by
 rcases UA P l 0 with ⟨h1,_⟩ | ⟨j,x,h1,h2,_⟩
 ·rw [h1] at h;simp at h
 ·exact ⟨j,x,by rw [h1];omega,h2⟩
theorem Z3c (s:Sta) (hs:StS s) (d:Door) (hd:DoS d) (m:AObj):
 ∃ fr h,Zb rE (.seq s58p8 (.seq s58p9 (.seq s58p10 .ret))) [(2,stI s),(5,.ptr 0 0 0 1),(6,.bool (exD d)),(93,.bool false)] [.row 16 [Zo d],m]=some (.ret,fr,h)∧get fr 4=.bool (!NO s d&&Q9 { Hf d with Kind:=6 }):=by
 have hm:=Wg 6 (Hf d) (Z3b d hd);have hm':pfn rE 57 [I 6,.agg [I 0,I 0,I 0,I 0,I 0,.str d.Id,.str d.Building,.str d.Street,.isl false false 1 [],.isl false false 3 [],I d.Number.N,.str d.Number.Letter,I d.Number.Num,I d.Number.Den,I d.Point.X,I d.Point.Y,.isl false false 2 [],.isl false false 7 []]]=_:=hm;have hb:=Hb s hs d.Building;have ht:=K7 s hs d.Street;unfold NO Zo;cases c1:d.Office != 0 with
 | true=>refine ⟨_,_,by simp only [go_sem,qy,qq,qv,qk,reduceIte,s58p8,s58p9,s58p10,hb,ht,c1];rfl,?_⟩;simp only [go_sem,qy]
 | false=>
 cases c2:decide (Y1 s d.Building < 0) with
 | true=>refine ⟨_,_,by simp only [go_sem,qy,qq,qv,qk,reduceIte,s58p8,s58p9,s58p10,hb,ht,c1,c2];rfl,?_⟩;simp only [go_sem,qy]
 | false=>
 cases c5003:decide (ZL s d.Street < 0) with
 | true=>refine ⟨_,_,by simp only [go_sem,qy,qq,qv,qk,reduceIte,s58p8,s58p9,s58p10,hb,ht,c1,c2,c5003];rfl,?_⟩;simp only [go_sem,qy]
 | false=>
 obtain ⟨j,x,hj,hx⟩:=QC c2;obtain ⟨k,y,hk,hy⟩:=QC c5003;have hj':Y1 s d.Building=(j:Int):=hj;have hk':ZL s d.Street=(k:Int):=hk;have hbE:WL s (Y1 s d.Building)=x.Ended:=by rw [hj'];simp [WL,hx]
 have hsE:QF s (ZL s d.Street)=y.Ended:=by rw [hk'];simp [QF,hy]
 have gx:=Z6 (f:=Building.enc) hx;have gy:=Z6 (f:=Street.enc) hy;rw [hbE,hsE];rw [hj'] at hb c2;rw [hk'] at ht c5003;cases c5004:exD d with
 | false=>refine ⟨_,_,by simp only [go_sem,qy,qq,qv,qk,reduceIte,s58p8,s58p9,s58p10,hb,ht,c1,c2,c5003,hm'];rfl,?_⟩;simp only [go_sem,qy]
 | true=>
 cases c5005:x.Ended != -1 with
 | true=>refine ⟨_,_,by simp only [go_sem,qy,qq,qv,qk,reduceIte,s58p8,s58p9,s58p10,hb,ht,c1,c2,c5003,gx,Building.enc,NL.enc,c5005];rfl,?_⟩;simp only [go_sem,qy]
 | false=>
 cases c5006:y.Ended != -1 with
 | true=>refine ⟨_,_,by simp only [go_sem,qy,qq,qv,qk,reduceIte,s58p8,s58p9,s58p10,hb,ht,c1,c2,c5003,gx,gy,Building.enc,Street.enc,NL.enc,c5005,c5006];rfl,?_⟩;simp only [go_sem,qy]
 | false=>refine ⟨_,_,by simp only [go_sem,qy,qq,qv,qk,reduceIte,s58p8,s58p9,s58p10,hb,ht,c1,c2,c5003,gx,gy,Building.enc,Street.enc,NL.enc,c5005,c5006,hm'];rfl,?_⟩;simp only [go_sem,qy]
theorem Fs (s:Sta) (hs:StS s) (i:Nat) (d:Door) (hd:DoS d) (hx:s.Doors[i]? = some d):pfn rE 58 [stA s,I i]=some (.bool (Hg s i d)):=by
 rw [Z5 (f:=58) (c:=c58) rfl rfl,c58_eq];have e0:QP 0 [stA s,I i]=[(0,stA s),(1,I i)]:=rfl;rw [e0];unfold Hg;have fin:∀ (fr:Fr) (h:Hp) (b:Bool),get fr 4=.bool b→frz (fnd [ResVar.tmp 4] (some (.ret,fr,h)))=some (.bool b):=by
  intro fr h b hg;simp only [go_sem,hg]
 cases c1:K8 s i d with
 | false=>
  obtain ⟨fr,h,h1,h2⟩:=(Fm s hs i d hd hx _).2 c1;rw [h1];exact fin fr h false h2
 | true=>
  rw [(Fm s hs i d hd hx _).1 c1,Z38];cases c2:UC d with
  | true=>
   obtain ⟨fr,h,h1,h2⟩:=(Fp s d hd _).2 c2;rw [h1];exact fin fr h false h2
  | false=>
   rw [(Fp s d hd _).1 c2];cases c5003:Z3 d.Veil emp with
   | false=>
    obtain ⟨fr,h,h1,h2⟩:=(Fq s d hd (XM d) _).2 c5003;rw [h1];exact fin fr h _ h2
   | true=>
    rw [(Fq s d hd (XM d) _).1 c5003];obtain ⟨fr,h,h1,h2⟩:=Z3c s hs d hd (XM d);rw [h1];exact fin fr h _ h2
end Go.AM
namespace Go.AM
open Go
structure StE (s:Sta):Prop where
 sizes:StS s
 regions:∀ x∈s.Regions,x.Names.l.length≤100∧x.Ring.l.length≤100∧x.Id.size≤1000
 streets:∀ x∈s.Streets,x.Names.l.length≤100∧x.Line.l.length≤100∧x.Id.size≤1000
 buildings:∀ x∈s.Buildings,x.Ring.l.length≤100∧x.Id.size≤1000
 doors:∀ x∈s.Doors,DoS x
 units:∀ x∈s.Units,x.Id.size≤1000∧x.Door.size≤1000∧x.Text.size≤1000
def Jt (x:Region):Event:=⟨0,0,x.Kind,0,0,x.Id,emp,emp,⟨false,[]⟩,⟨false,[]⟩,⟨0,emp,0,0⟩,⟨0,0⟩,x.Ring,⟨false,[]⟩⟩
def Ju (x:Street):Event:=⟨0,0,0,0,0,x.Id,emp,emp,⟨false,[]⟩,⟨false,[]⟩,⟨0,emp,0,0⟩,⟨0,0⟩,x.Line,⟨false,[]⟩⟩
def Jv (x:Building):Event:=⟨0,0,0,0,0,x.Id,emp,emp,⟨false,[]⟩,⟨false,[]⟩,⟨0,emp,0,0⟩,⟨0,0⟩,x.Ring,⟨false,[]⟩⟩
def Vn (x:Unit'):Event:=⟨0,0,0,0,0,x.Id,x.Door,x.Text,⟨false,[]⟩,⟨false,[]⟩,⟨0,emp,0,0⟩,⟨0,0⟩,⟨false,[]⟩,⟨false,[]⟩⟩
def Vo (x:Region):Bool:=QM x.Owner x.Ended 0&&(Jp x.Names.l x.Names.ex&&Q9 { Jt x with Kind:=1 })
def Vp (x:Street):Bool:=QM x.Owner x.Ended 0&&(Jp x.Names.l x.Names.ex&&Q9 { Ju x with Kind:=2 })
def Vq (x:Building):Bool:=QM x.Owner x.Ended 0&&Q9 { Jv x with Kind:=5 }
def Vr (s:Sta) (i:Nat) (x:Door):Bool:=QM x.Owner x.Ended x.From&&Hg s i x
def QN (s:Sta) (k:Int):Int:=match s.Doors[k.toNat]? with | some d=>d.Ended | none=>0
def Jw (s:Sta) (x:Unit'):Bool:=(x.Ended==-1&&(x.Why != 0||QN s (Zn s x.Door) != -1))||((x.Ended != -1&&x.Why != 12)&&x.Why != 11)
def Vs (s:Sta) (x:Unit'):Bool:=!decide (Zn s x.Door < 0)&&(QM 0 x.Ended x.From&&(Q9 { Vn x with Kind:=7 }&&!Jw s x))
def Jx (s:Sta):Bool:=s.Regions.all Vo&&(s.Streets.all Vp&&(s.Buildings.all Vq&&(Zu (Vr s) 0 s.Doors&&(s.Units.all (Vs s)&&(Jq (Qp s)&&(Wh s.Doors&&WK s))))))
theorem Z3d (s:Sta) (hs:StE s):∃ fr',Zg rE [1,15,16,17] c25L0b [(1,stI s),(15,.isl false false 6 (s.Regions.map Region.enc)),(16,I s.Regions.length),(17,.int .i64 0)] [] =
 some (if Zu (fun _ x=>Vo x) 0 s.Regions=true then .exit 0 else .ret,fr',[])∧(Zu (fun _ x=>Vo x) 0 s.Regions=true→get fr' 1=stI s∧get fr' 2=.bot)∧(Zu (fun _ x=>Vo x) 0 s.Regions=false→get fr' 2=.bool false):=by
 have L:=QT (E:=rE) (live:=[1,15,16,17]) (b:=c25L0b) (h:=[]) s.Regions (fun _ x=>Vo x)
  (fun i=>[(1,stI s),(15,.isl false false 6 (s.Regions.map Region.enc)),(16,I s.Regions.length),(17,I i)]) 0
  (fun fr=>get fr 1=stI s∧get fr 2=.bot) (fun fr=>get fr 2=.bool false) (fun i=>rfl)
  (fun i x hx hP=>by
   have hg:=Z6 (f:=Region.enc) hx;have hi:=Zh (Z7 hx);have hw:=Zx (n:=i) (by have:=Z7 hx;have:=hs.sizes.regions;omega)
   have hm:=ZOh hx;obtain ⟨z1,z2,z3⟩:=hs.regions x hm;have hnm:=Hc x.Names.l x.Names.ex z1;have hmd:pfn rE 57 [I 1,.agg [I 0,I 0,I x.Kind,I 0,I 0,.str x.Id,.str emp,.str emp,.isl false false 1 [],.isl false false 3 [],I 0,.str emp,I 0,I 0,I 0,I 0,.isl false x.Ring.ex 2 (x.Ring.l.map Pt.enc),.isl false false 7 []]]=some (.bool (Q9 { Jt x with Kind:=1 })):=Wg 1 (Jt x) ⟨ZO5 _,ZO5 _,z2,ZO5 _,z3,ZO5 _,ZO5 _⟩
   simp only [Vo,ZO2] at hP;obtain ⟨p1,p2,p3⟩:=hP;refine ⟨_,by simp only [go_sem,qy,qq,qv,qk,reduceIte,c25L0b,hg,hi,hw,Region.enc,NL.enc,Qc,hnm,hmd,p1,p2,p3];rfl,?_⟩
   simp only [go_sem,qy])
  (fun i x hx hP=>by
   have hg:=Z6 (f:=Region.enc) hx;have hi:=Zh (Z7 hx);have hm:=ZOh hx;obtain ⟨z1,z2,z3⟩:=hs.regions x hm;have hnm:=Hc x.Names.l x.Names.ex z1;have hmd:pfn rE 57 [I 1,.agg [I 0,I 0,I x.Kind,I 0,I 0,.str x.Id,.str emp,.str emp,.isl false false 1 [],.isl false false 3 [],I 0,.str emp,I 0,I 0,I 0,I 0,.isl false x.Ring.ex 2 (x.Ring.l.map Pt.enc),.isl false false 7 []]]=some (.bool (Q9 { Jt x with Kind:=1 })):=Wg 1 (Jt x) ⟨ZO5 _,ZO5 _,z2,ZO5 _,z3,ZO5 _,ZO5 _⟩
   unfold Vo at hP;cases p1:QM x.Owner x.Ended 0 with
   | false=>
    refine ⟨_,by simp only [go_sem,qy,qq,qv,qk,reduceIte,c25L0b,hg,hi,Region.enc,NL.enc,Qc,p1];rfl,?_⟩
    simp only [go_sem,qy]
   | true=>
   cases p2:Jp x.Names.l x.Names.ex with
   | false=>
    refine ⟨_,by simp only [go_sem,qy,qq,qv,qk,reduceIte,c25L0b,hg,hi,Region.enc,NL.enc,Qc,hnm,p1,p2];rfl,?_⟩
    simp only [go_sem,qy]
   | true=>
    have p3:Q9 { Jt x with Kind:=1 }=false:=by simpa [p1,p2] using hP
    refine ⟨_,by simp only [go_sem,qy,qq,qv,qk,reduceIte,c25L0b,hg,hi,Region.enc,NL.enc,Qc,hnm,hmd,p1,p2,p3];rfl,?_⟩
    simp only [go_sem,qy])
  (⟨_,by simp only [go_sem,qy,reduceIte,c25L0b,ZG];rfl,by refine ⟨?_,?_⟩<;>simp only [go_sem,qy]⟩)
 exact L
theorem Z3e (s:Sta) (hs:StE s):∃ fr',Zg rE [1,46,47,48] c25L1b [(1,stI s),(46,.isl false false 5 (s.Streets.map Street.enc)),(47,I s.Streets.length),(48,.int .i64 0)] [] =
 some (if Zu (fun _ x=>Vp x) 0 s.Streets=true then .exit 2 else .ret,fr',[])∧(Zu (fun _ x=>Vp x) 0 s.Streets=true→get fr' 1=stI s∧get fr' 2=.bot)∧(Zu (fun _ x=>Vp x) 0 s.Streets=false→get fr' 2=.bool false):=by
 have L:=QT (E:=rE) (live:=[1,46,47,48]) (b:=c25L1b) (h:=[]) s.Streets (fun _ x=>Vp x)
  (fun i=>[(1,stI s),(46,.isl false false 5 (s.Streets.map Street.enc)),(47,I s.Streets.length),(48,I i)]) 2
  (fun fr=>get fr 1=stI s∧get fr 2=.bot) (fun fr=>get fr 2=.bool false) (fun i=>rfl)
  (fun i x hx hP=>by
   have hg:=Z6 (f:=Street.enc) hx;have hi:=Zh (Z7 hx);have hw:=Zx (n:=i) (by have:=Z7 hx;have:=hs.sizes.streets;omega)
   have hm:=ZOh hx;obtain ⟨z1,z2,z3⟩:=hs.streets x hm;have hnm:=Hc x.Names.l x.Names.ex z1;have hmd:pfn rE 57 [I 2,.agg [I 0,I 0,I 0,I 0,I 0,.str x.Id,.str emp,.str emp,.isl false false 1 [],.isl false false 3 [],I 0,.str emp,I 0,I 0,I 0,I 0,.isl false x.Line.ex 2 (x.Line.l.map Pt.enc),.isl false false 7 []]]=some (.bool (Q9 { Ju x with Kind:=2 })):=Wg 2 (Ju x) ⟨ZO5 _,ZO5 _,z2,ZO5 _,z3,ZO5 _,ZO5 _⟩
   simp only [Vp,ZO2] at hP;obtain ⟨p1,p2,p3⟩:=hP;refine ⟨_,by simp only [go_sem,qy,qq,qv,qk,reduceIte,c25L1b,hg,hi,hw,Street.enc,NL.enc,Qc,hnm,hmd,p1,p2,p3];rfl,?_⟩
   simp only [go_sem,qy])
  (fun i x hx hP=>by
   have hg:=Z6 (f:=Street.enc) hx;have hi:=Zh (Z7 hx);have hm:=ZOh hx;obtain ⟨z1,z2,z3⟩:=hs.streets x hm;have hnm:=Hc x.Names.l x.Names.ex z1;have hmd:pfn rE 57 [I 2,.agg [I 0,I 0,I 0,I 0,I 0,.str x.Id,.str emp,.str emp,.isl false false 1 [],.isl false false 3 [],I 0,.str emp,I 0,I 0,I 0,I 0,.isl false x.Line.ex 2 (x.Line.l.map Pt.enc),.isl false false 7 []]]=some (.bool (Q9 { Ju x with Kind:=2 })):=Wg 2 (Ju x) ⟨ZO5 _,ZO5 _,z2,ZO5 _,z3,ZO5 _,ZO5 _⟩
   unfold Vp at hP;cases p1:QM x.Owner x.Ended 0 with
   | false=>
    refine ⟨_,by simp only [go_sem,qy,qq,qv,qk,reduceIte,c25L1b,hg,hi,Street.enc,NL.enc,Qc,p1];rfl,?_⟩
    simp only [go_sem,qy]
   | true=>
   cases p2:Jp x.Names.l x.Names.ex with
   | false=>
    refine ⟨_,by simp only [go_sem,qy,qq,qv,qk,reduceIte,c25L1b,hg,hi,Street.enc,NL.enc,Qc,hnm,p1,p2];rfl,?_⟩
    simp only [go_sem,qy]
   | true=>
    have p3:Q9 { Ju x with Kind:=2 }=false:=by simpa [p1,p2] using hP
    refine ⟨_,by simp only [go_sem,qy,qq,qv,qk,reduceIte,c25L1b,hg,hi,Street.enc,NL.enc,Qc,hnm,hmd,p1,p2,p3];rfl,?_⟩
    simp only [go_sem,qy])
  (⟨_,by simp only [go_sem,qy,reduceIte,c25L1b,ZG];rfl,by refine ⟨?_,?_⟩<;>simp only [go_sem,qy]⟩)
 exact L
theorem Z3f (s:Sta) (hs:StE s):∃ fr',Zg rE [1,75,76,77] c25L2b [(1,stI s),(75,.isl false false 4 (s.Buildings.map Building.enc)),(76,I s.Buildings.length),(77,.int .i64 0)] [] =
 some (if Zu (fun _ x=>Vq x) 0 s.Buildings=true then .exit 4 else .ret,fr',[])∧(Zu (fun _ x=>Vq x) 0 s.Buildings=true→get fr' 1=stI s∧get fr' 2=.bot)∧(Zu (fun _ x=>Vq x) 0 s.Buildings=false→get fr' 2=.bool false):=by
 have L:=QT (E:=rE) (live:=[1,75,76,77]) (b:=c25L2b) (h:=[]) s.Buildings (fun _ x=>Vq x)
  (fun i=>[(1,stI s),(75,.isl false false 4 (s.Buildings.map Building.enc)),(76,I s.Buildings.length),(77,I i)]) 4
  (fun fr=>get fr 1=stI s∧get fr 2=.bot) (fun fr=>get fr 2=.bool false) (fun i=>rfl)
  (fun i x hx hP=>by
   have hg:=Z6 (f:=Building.enc) hx;have hi:=Zh (Z7 hx);have hw:=Zx (n:=i) (by have:=Z7 hx;have:=hs.sizes.buildings;omega)
   have hm:=ZOh hx;obtain ⟨z2,z3⟩:=hs.buildings x hm;have hmd:pfn rE 57 [I 5,.agg [I 0,I 0,I 0,I 0,I 0,.str x.Id,.str emp,.str emp,.isl false false 1 [],.isl false false 3 [],I 0,.str emp,I 0,I 0,I 0,I 0,.isl false x.Ring.ex 2 (x.Ring.l.map Pt.enc),.isl false false 7 []]]=some (.bool (Q9 { Jv x with Kind:=5 })):=Wg 5 (Jv x) ⟨ZO5 _,ZO5 _,z2,ZO5 _,z3,ZO5 _,ZO5 _⟩
   simp only [Vq,ZO2] at hP;obtain ⟨p1,p3⟩:=hP;refine ⟨_,by simp only [go_sem,qy,qq,qv,qk,reduceIte,c25L2b,hg,hi,hw,Building.enc,NL.enc,Qc,hmd,p1,p3];rfl,?_⟩
   simp only [go_sem,qy])
  (fun i x hx hP=>by
   have hg:=Z6 (f:=Building.enc) hx;have hi:=Zh (Z7 hx);have hm:=ZOh hx;obtain ⟨z2,z3⟩:=hs.buildings x hm;have hmd:pfn rE 57 [I 5,.agg [I 0,I 0,I 0,I 0,I 0,.str x.Id,.str emp,.str emp,.isl false false 1 [],.isl false false 3 [],I 0,.str emp,I 0,I 0,I 0,I 0,.isl false x.Ring.ex 2 (x.Ring.l.map Pt.enc),.isl false false 7 []]]=some (.bool (Q9 { Jv x with Kind:=5 })):=Wg 5 (Jv x) ⟨ZO5 _,ZO5 _,z2,ZO5 _,z3,ZO5 _,ZO5 _⟩
   unfold Vq at hP;cases p1:QM x.Owner x.Ended 0 with
   | false=>
    refine ⟨_,by simp only [go_sem,qy,qq,qv,qk,reduceIte,c25L2b,hg,hi,Building.enc,NL.enc,Qc,p1];rfl,?_⟩
    simp only [go_sem,qy]
   | true=>
    have p3:Q9 { Jv x with Kind:=5 }=false:=by simpa [p1] using hP
    refine ⟨_,by simp only [go_sem,qy,qq,qv,qk,reduceIte,c25L2b,hg,hi,Building.enc,NL.enc,Qc,hmd,p1,p3];rfl,?_⟩
    simp only [go_sem,qy])
  (⟨_,by simp only [go_sem,qy,reduceIte,c25L2b,ZG];rfl,by refine ⟨?_,?_⟩<;>simp only [go_sem,qy]⟩)
 exact L
theorem Z3g (s:Sta) (hs:StE s):∃ fr',Zg rE [1,98,99,100] c25L3b [(1,stI s),(98,.isl false false 16 (s.Doors.map Door.enc)),(99,I s.Doors.length),(100,.int .i64 0)] [] =
 some (if Zu (Vr s) 0 s.Doors=true then .exit 6 else .ret,fr',[])∧(Zu (Vr s) 0 s.Doors=true→get fr' 1=stI s∧get fr' 2=.bot)∧(Zu (Vr s) 0 s.Doors=false→get fr' 2=.bool false):=by
 have L:=QT (E:=rE) (live:=[1,98,99,100]) (b:=c25L3b) (h:=[]) s.Doors (Vr s)
  (fun i=>[(1,stI s),(98,.isl false false 16 (s.Doors.map Door.enc)),(99,I s.Doors.length),(100,I i)]) 6
  (fun fr=>get fr 1=stI s∧get fr 2=.bot) (fun fr=>get fr 2=.bool false) (fun i=>rfl)
  (fun i x hx hP=>by
   have hg:=Z6 (f:=Door.enc) hx;have hi:=Zh (Z7 hx);have hw:=Zx (n:=i) (by have:=Z7 hx;have:=hs.sizes.doors;omega)
   have hm:=ZOh hx;have hst:=Fs s hs.sizes i x (hs.doors x hm) hx;simp only [Vr,ZO2] at hP;obtain ⟨p1,p3⟩:=hP;refine ⟨_,by simp only [go_sem,qy,qq,qv,qk,reduceIte,c25L3b,hg,hi,hw,Door.enc,NL.enc,Qc,hst,p1,p3];rfl,?_⟩
   simp only [go_sem,qy])
  (fun i x hx hP=>by
   have hg:=Z6 (f:=Door.enc) hx;have hi:=Zh (Z7 hx);have hm:=ZOh hx;have hst:=Fs s hs.sizes i x (hs.doors x hm) hx;unfold Vr at hP;cases p1:QM x.Owner x.Ended x.From with
   | false=>
    refine ⟨_,by simp only [go_sem,qy,qq,qv,qk,reduceIte,c25L3b,hg,hi,Door.enc,NL.enc,Qc,p1];rfl,?_⟩
    simp only [go_sem,qy]
   | true=>
    have p3:Hg s i x=false:=by simpa [p1] using hP
    refine ⟨_,by simp only [go_sem,qy,qq,qv,qk,reduceIte,c25L3b,hg,hi,Door.enc,NL.enc,Qc,hst,p1,p3];rfl,?_⟩
    simp only [go_sem,qy])
  (⟨_,by simp only [go_sem,qy,reduceIte,c25L3b,ZG];rfl,by refine ⟨?_,?_⟩<;>simp only [go_sem,qy]⟩)
 exact L
theorem Z3h (s:Sta) (hs:StE s):∃ fr',Zg rE [1,121,122,123] c25L4b [(1,stI s),(121,.isl false false 6 (s.Units.map Unit'.enc)),(122,I s.Units.length),(123,.int .i64 0)] [] =
 some (if Zu (fun _ x=>Vs s x) 0 s.Units=true then .exit 8 else .ret,fr',[])∧(Zu (fun _ x=>Vs s x) 0 s.Units=true→get fr' 1=stI s∧get fr' 2=.bot)∧(Zu (fun _ x=>Vs s x) 0 s.Units=false→get fr' 2=.bool false):=by
 have L:=QT (E:=rE) (live:=[1,121,122,123]) (b:=c25L4b) (h:=[]) s.Units (fun _ x=>Vs s x)
  (fun i=>[(1,stI s),(121,.isl false false 6 (s.Units.map Unit'.enc)),(122,I s.Units.length),(123,I i)]) 8
  (fun fr=>get fr 1=stI s∧get fr 2=.bot) (fun fr=>get fr 2=.bool false) (fun i=>rfl)
  (fun i x hx hP=>by
   have hg:=Z6 (f:=Unit'.enc) hx;have hi:=Zh (Z7 hx);have hw:=Zx (n:=i) (by have:=Z7 hx;have:=hs.sizes.units;omega)
   have hm:=ZOh hx;obtain ⟨z1,z2,z3⟩:=hs.units x hm;have hf:=find_ok s hs.sizes x.Door;have hmd:pfn rE 57 [I 7,.agg [I 0,I 0,I 0,I 0,I 0,.str x.Id,.str x.Door,.str x.Text,.isl false false 1 [],.isl false false 3 [],I 0,.str emp,I 0,I 0,I 0,I 0,.isl false false 2 [],.isl false false 7 []]]=some (.bool (Q9 { Vn x with Kind:=7 })):=Wg 7 (Vn x) ⟨ZO5 _,ZO5 _,ZO5 _,ZO5 _,z1,z2,z3⟩
   unfold Vs at hP;have p0:decide (Zn s x.Door < 0)=false:=by cases h:decide (Zn s x.Door < 0)<;>simp_all
   have p1:QM 0 x.Ended x.From=true:=by cases h:QM 0 x.Ended x.From<;>simp_all
   have p2:Q9 { Vn x with Kind:=7 }=true:=by cases h:Q9 { Vn x with Kind:=7 }<;>simp_all
   have p3:Jw s x=false:=by cases h:Jw s x<;>simp_all
   obtain ⟨j,y,hj,hy⟩:=QC p0;have hj':Zn s x.Door=(j:Int):=hj;have gy:=Z6 (f:=Door.enc) hy;have hdE:QN s (Zn s x.Door)=y.Ended:=by rw [hj'];simp [QN,hy]
   unfold Jw at p3;rw [hdE] at p3;rw [hj'] at hf p0;have ne:(x.Ended != -1) = !(x.Ended==-1):=rfl;rw [ne] at p3;cases q1:x.Ended==-1 with
   | true=>
    have ne':(x.Ended != -1)=false:=by rw [ne,q1];rfl
    have q2:(x.Why != 0)=false:=by cases h:x.Why != 0<;>simp_all
    have q3:(y.Ended != -1)=false:=by cases h:y.Ended != -1<;>simp_all
    refine ⟨_,by simp only [go_sem,qy,qq,qv,qk,reduceIte,c25L4b,hg,hi,hw,gy,Unit'.enc,Door.enc,NL.enc,Qc,hf,hmd,p0,p1,p2,q1,q2,q3,ne'];rfl,?_⟩
    simp only [go_sem,qy]
   | false=>
    have ne':(x.Ended != -1)=true:=by rw [ne,q1];rfl
    cases q4:x.Why != 12 with
    | false=>
     refine ⟨_,by simp only [go_sem,qy,qq,qv,qk,reduceIte,c25L4b,hg,hi,hw,Unit'.enc,Qc,hf,hmd,p0,p1,p2,q1,ne',q4];rfl,?_⟩
     simp only [go_sem,qy]
    | true=>
     have q5:(x.Why != 11)=false:=by cases h:x.Why != 11<;>simp_all
     refine ⟨_,by simp only [go_sem,qy,qq,qv,qk,reduceIte,c25L4b,hg,hi,hw,Unit'.enc,Qc,hf,hmd,p0,p1,p2,q1,ne',q4,q5];rfl,?_⟩
     simp only [go_sem,qy])
  (fun i x hx hP=>by
   have hg:=Z6 (f:=Unit'.enc) hx;have hi:=Zh (Z7 hx);have hm:=ZOh hx;obtain ⟨z1,z2,z3⟩:=hs.units x hm;have hf:=find_ok s hs.sizes x.Door;have hmd:pfn rE 57 [I 7,.agg [I 0,I 0,I 0,I 0,I 0,.str x.Id,.str x.Door,.str x.Text,.isl false false 1 [],.isl false false 3 [],I 0,.str emp,I 0,I 0,I 0,I 0,.isl false false 2 [],.isl false false 7 []]]=some (.bool (Q9 { Vn x with Kind:=7 })):=Wg 7 (Vn x) ⟨ZO5 _,ZO5 _,ZO5 _,ZO5 _,z1,z2,z3⟩
   unfold Vs at hP;cases p0:decide (Zn s x.Door < 0) with
   | true=>
    refine ⟨_,by simp only [go_sem,qy,qq,qv,qk,reduceIte,c25L4b,hg,hi,Unit'.enc,hf,p0];rfl,?_⟩
    simp only [go_sem,qy]
   | false=>
   cases p1:QM 0 x.Ended x.From with
   | false=>
    refine ⟨_,by simp only [go_sem,qy,qq,qv,qk,reduceIte,c25L4b,hg,hi,Unit'.enc,hf,p0,Qc,p1];rfl,?_⟩
    simp only [go_sem,qy]
   | true=>
   cases p2:Q9 { Vn x with Kind:=7 } with
   | false=>
    refine ⟨_,by simp only [go_sem,qy,qq,qv,qk,reduceIte,c25L4b,hg,hi,Unit'.enc,hf,p0,Qc,p1,hmd,p2];rfl,?_⟩
    simp only [go_sem,qy]
   | true=>
   have p3:Jw s x=true:=by simpa [p0,p1,p2] using hP
   obtain ⟨j,y,hj,hy⟩:=QC p0;have hj':Zn s x.Door=(j:Int):=hj;have gy:=Z6 (f:=Door.enc) hy;have hdE:QN s (Zn s x.Door)=y.Ended:=by rw [hj'];simp [QN,hy]
   unfold Jw at p3;rw [hdE] at p3;rw [hj'] at hf p0;have ne:(x.Ended != -1) = !(x.Ended==-1):=rfl;rw [ne] at p3;cases q1:x.Ended==-1 with
   | true=>
    have ne':(x.Ended != -1)=false:=by rw [ne,q1];rfl
    cases q2:x.Why != 0 with
    | true=>
     refine ⟨_,by simp only [go_sem,qy,qq,qv,qk,reduceIte,c25L4b,hg,hi,Unit'.enc,Qc,hf,hmd,p0,p1,p2,q1,q2];rfl,?_⟩
     simp only [go_sem,qy]
    | false=>
     have q3:(y.Ended != -1)=true:=by simpa [q1,q2] using p3
     refine ⟨_,by simp only [go_sem,qy,qq,qv,qk,reduceIte,c25L4b,hg,hi,gy,Unit'.enc,Door.enc,NL.enc,Qc,hf,hmd,p0,p1,p2,q1,q2,q3];rfl,?_⟩
     simp only [go_sem,qy]
   | false=>
    have ne':(x.Ended != -1)=true:=by rw [ne,q1];rfl
    have q4:(x.Why != 12)=true:=by cases h:x.Why != 12<;>simp_all
    have q5:(x.Why != 11)=true:=by cases h:x.Why != 11<;>simp_all
    refine ⟨_,by simp only [go_sem,qy,qq,qv,qk,reduceIte,c25L4b,hg,hi,Unit'.enc,Qc,hf,hmd,p0,p1,p2,q1,ne',q4,q5];rfl,?_⟩
    simp only [go_sem,qy])
  (⟨_,by simp only [go_sem,qy,reduceIte,c25L4b,ZG];rfl,by refine ⟨?_,?_⟩<;>simp only [go_sem,qy]⟩)
 exact L
theorem Z3i (s:Sta) (hs:StE s):pfn rE 25 [stA s]=some (.bool (Jx s)):=by
 obtain ⟨f0,a0,b0,d0⟩:=Z3d s hs;obtain ⟨f1,a1,b1,d1⟩:=Z3e s hs;obtain ⟨f2,a2,b2,d2⟩:=Z3f s hs;obtain ⟨f3,a3,b3,d3⟩:=Z3g s hs;obtain ⟨f4,a4,b4,d4⟩:=Z3h s hs;rw [QE] at a0 b0 d0 a1 b1 d1 a2 b2 d2 a4 b4 d4;have hi:=Fd s hs.sizes;have hso:=Fj (Qp s) false (by have h1:=hs.sizes.regions;have h2:=hs.sizes.streets;have h3:=hs.sizes.buildings;have h4:=hs.sizes.doors;have h5:=hs.sizes.units;simp [Qp];omega)
 have hn:=Fk s hs.sizes;have hp:=Z31 s hs.sizes;rw [Z5 (f:=25) rfl rfl];unfold Jx;cases c0:s.Regions.all Vo with
 | false=>rw [c0] at a0;simp only [go_sem,qy,qq,reduceIte,c25,c25L0,a0,d0 c0,ZOd]
 | true=>
 rw [c0,if_pos rfl] at a0;obtain ⟨p0,q0⟩:=b0 c0;cases c1:s.Streets.all Vp with
 | false=>rw [c1] at a1;simp only [go_sem,qy,qq,reduceIte,c25,c25L0,c25L1,a0,p0,q0,a1,d1 c1,ZOd]
 | true=>
 rw [c1,if_pos rfl] at a1;obtain ⟨p1,q1⟩:=b1 c1;cases c2:s.Buildings.all Vq with
 | false=>rw [c2] at a2;simp only [go_sem,qy,qq,reduceIte,c25,c25L0,c25L1,c25L2,a0,p0,q0,a1,p1,q1,a2,d2 c2,ZOd]
 | true=>
 rw [c2,if_pos rfl] at a2;obtain ⟨p2,q2⟩:=b2 c2;cases c5003:Zu (Vr s) 0 s.Doors with
 | false=>rw [c5003] at a3;simp only [go_sem,qy,qq,reduceIte,c25,c25L0,c25L1,c25L2,c25L3,a0,p0,q0,a1,p1,q1,a2,p2,q2,a3,d3 c5003,ZOd]
 | true=>
 rw [c5003,if_pos rfl] at a3;obtain ⟨p3,q3⟩:=b3 c5003;cases c5004:s.Units.all (Vs s) with
 | false=>rw [c5004] at a4;simp only [go_sem,qy,qq,reduceIte,c25,c25L0,c25L1,c25L2,c25L3,c25L4,a0,p0,q0,a1,p1,q1,a2,p2,q2,a3,p3,q3,a4,d4 c5004,ZOd]
 | true=>
 rw [c5004,if_pos rfl] at a4;obtain ⟨p4,q4⟩:=b4 c5004;cases c5005:Jq (Qp s)<;>cases c5006:Wh s.Doors<;>rw [c5005] at hso<;>rw [c5006] at hn<;>
  simp only [go_sem,qy,qq,qk,c25,c25L0,c25L1,c25L2,c25L3,c25L4,a0,p0,q0,a1,p1,q1,a2,p2,q2,a3,p3,q3,a4,p4,q4,hi,hso,hn,hp]
end Go.AM
namespace Go.AM
open Go
def ibr (h:Hp) (a b c:Bool):DRec:=bif a&&(!b&&!c) then ⟨false,[],some h.length,none⟩ else ⟨false,[],none,none⟩
theorem Zqa (h:Hp):ibr h true false false=⟨false,[],some h.length,none⟩:=rfl
theorem Zqb (h:Hp) (c:Bool):ibr h true true c=⟨false,[],none,none⟩:=rfl
theorem Zqc (h:Hp):ibr h true false true=⟨false,[],none,none⟩:=rfl
theorem Zqd {E:Env} {sz:Nat} {x:Arg} {fr:Fr} {h:Hp}:Za E (.ibox sz x) fr h=ibr h (fits sz (ev E (Z2 x.slots fr) x)) (Z4 (ev E (Z2 x.slots fr) x).cells) (Zi (ev E (Z2 x.slots fr) x).cells):=by
 simp only [Za,Z8,AOp.slots];cases fits sz (ev E (Z2 x.slots fr) x)<;>cases Z4 (ev E (Z2 x.slots fr) x).cells<;>cases Zi (ev E (Z2 x.slots fr) x).cells<;>rfl
attribute [go_sem] Zqd Zqa Zqb Zqc
end Go.AM
namespace Go.AM
open Go
def hfX (q:Int) (p:Int):Int:=W (W (2 * q) - p)
def ZoX (p a b:Pt):Int:=W (W (hfX a.X p.X * hfX b.Y p.Y) - W (hfX a.Y p.Y * hfX b.X p.X))
def Zp9 (p a b:Pt):Bool:=ZoX p a b==0&&decide (W (W (hfX a.X p.X * hfX b.X p.X)+W (hfX a.Y p.Y * hfX b.Y p.Y))≤0)
def Zp4 (p a b:Pt) (w:Int):Int:=
 bif decide (hfX a.Y p.Y≤0)&&(decide (hfX b.Y p.Y > 0)&&decide (ZoX p a b > 0)) then W (w+1)
 else bif decide (hfX a.Y p.Y > 0)&&(decide (hfX b.Y p.Y≤0)&&decide (ZoX p a b < 0)) then W (w - 1) else w
def ZoP (p:Pt) (l:List Pt) (st:Int×Bool) (i:Nat):Int×Bool:=
 (Zp4 p (pAt l i) (pAt l ((i+1) % l.length)) st.1,st.2||Zp9 p (pAt l i) (pAt l ((i+1) % l.length)))
def ZoC (l:List Pt) (p:Pt):Int×Bool:=(List.range l.length).foldl (ZoP p l) (0,false)
def ZoD (v:AV) (p:Pt):Fr:=[(14,.clo (.func 276) [] [.iptr false [v]]),(13,v),(0,v),(3,.iptr false [I p.X,I p.Y]),(4,.ptr 0 0 0 1),(5,.ptr 1 0 0 1)]
def hfH (v:AV) (p:Pt) (st:Int×Bool):Hp:=[.row 1 [I st.1],.row 1 [.bool st.2],.loop .ready .normal (ZoD v p) [15,16] c284R0a c284R0b]
def hfD:ACode:=
 .keep []<|.block 2<|
  .seq (.keep [4,9,11,12,63]<|.region [o 64 (.mv (.t 9)),
   o 65 (.bin .leq (.t 64) (.c (.int .i64 0))),
   o 66 (.mv (.t 65)),
   og 67 (.mv (.t 11)) 66 true,
   og 68 (.bin .gtr (.t 67) (.c (.int .i64 0))) 66 true,
   o 69 (.pick (.t 66) (.t 68) (.c (.bool false))),
   o 70 (.mv (.t 69)),
   og 71 (.mv (.t 12)) 70 true,
   og 72 (.bin .gtr (.t 71) (.c (.int .i64 0))) 70 true,
   o 73 (.pick (.t 70) (.t 72) (.c (.bool false))),
   o 63 (.mv (.t 73))])<|
  .cond (.t 63)
   (.keep []<|.region [o 74 (.load none (.t 4)),
    o 75 (.bin .add (.t 74) (.c (.int .i64 1))),
    ⟨none,.store 1 (.t 4) (.t 75),none⟩])
   (.seq (.keep [4,76]<|.region [o 77 (.mv (.t 9)),
     o 78 (.bin .gtr (.t 77) (.c (.int .i64 0))),
     o 79 (.mv (.t 78)),
     og 80 (.mv (.t 11)) 79 true,
     og 81 (.bin .leq (.t 80) (.c (.int .i64 0))) 79 true,
     o 82 (.pick (.t 79) (.t 81) (.c (.bool false))),
     o 83 (.mv (.t 82)),
     og 84 (.mv (.t 12)) 83 true,
     og 85 (.bin .lss (.t 84) (.c (.int .i64 0))) 83 true,
     o 86 (.pick (.t 83) (.t 85) (.c (.bool false))),
     o 76 (.mv (.t 86))])<|
    .cond (.t 76)
     (.keep []<|.region [o 87 (.load none (.t 4)),
      o 88 (.bin .sub (.t 87) (.c (.int .i64 1))),
      ⟨none,.store 1 (.t 4) (.t 88),none⟩])
     (.skip))
def hfB:ACode:=
 .keep []<|.block 1<|
  .seq (.keep [4,5,8,9,10,11]<|.draw [[],[],[],[],[],[],[],[],[],[],[],[],[],[],[],[],[],[],[],[],[],[],[],[],[],[],[]]
   [o 17 (.fadr 0 (.t 6)),
   o 18 (.load none (.t 17)),
   o 19 (.bin .mul (.c (.int .i64 2)) (.t 18)),
   o 20 (.fadr 0 (.t 3)),
   o 21 (.load none (.t 20)),
   o 22 (.bin .sub (.t 19) (.t 21)),
   o 23 (.fadr 1 (.t 6)),
   o 24 (.load none (.t 23)),
   o 25 (.bin .mul (.c (.int .i64 2)) (.t 24)),
   o 26 (.fadr 1 (.t 3)),
   o 27 (.load none (.t 26)),
   o 28 (.bin .sub (.t 25) (.t 27)),
   o 29 (.fadr 0 (.t 7)),
   o 30 (.load none (.t 29)),
   o 31 (.bin .mul (.c (.int .i64 2)) (.t 30)),
   o 32 (.fadr 0 (.t 3)),
   o 33 (.load none (.t 32)),
   o 34 (.bin .sub (.t 31) (.t 33)),
   o 35 (.fadr 1 (.t 7)),
   o 36 (.load none (.t 35)),
   o 37 (.bin .mul (.c (.int .i64 2)) (.t 36)),
   o 38 (.fadr 1 (.t 3)),
   o 39 (.load none (.t 38)),
   o 40 (.bin .sub (.t 37) (.t 39)),
   o 8 (.mv (.t 22)),
   o 9 (.mv (.t 28)),
   o 10 (.mv (.t 34))]
   [o 11 (.mv (.t 40))])<|
  .seq (.keep [4,5,8,9,10,11,12]<|.region [o 41 (.mv (.t 8)),
   o 42 (.mv (.t 11)),
   o 43 (.bin .mul (.t 41) (.t 42)),
   o 44 (.mv (.t 9)),
   o 45 (.mv (.t 10)),
   o 46 (.bin .mul (.t 44) (.t 45)),
   o 47 (.bin .sub (.t 43) (.t 46)),
   o 12 (.mv (.t 47))])<|
  .seq (.keep [4,9,11,12]<|.region [o 48 (.load none (.t 5)),
   o 49 (.mv (.t 48)),
   og 50 (.mv (.t 12)) 49 false,
   og 51 (.bin .eql (.t 50) (.c (.int .i64 0))) 49 false,
   og 52 (.mv (.t 51)) 49 false,
   og 53 (.mv (.t 8)) 52 true,
   og 54 (.mv (.t 10)) 52 true,
   og 55 (.bin .mul (.t 53) (.t 54)) 52 true,
   og 56 (.mv (.t 9)) 52 true,
   og 57 (.mv (.t 11)) 52 true,
   og 58 (.bin .mul (.t 56) (.t 57)) 52 true,
   og 59 (.bin .add (.t 55) (.t 58)) 52 true,
   og 60 (.bin .leq (.t 59) (.c (.int .i64 0))) 52 true,
   og 61 (.pick (.t 52) (.t 60) (.c (.bool false))) 49 false,
   o 62 (.pick (.t 49) (.c (.bool true)) (.t 61)),
   ⟨none,.store 1 (.t 5) (.t 62),none⟩])<|
  hfD
theorem Zqk (p a b:Pt) (w:Int) (F:Fr) (hb6:Zd 6 (frV F)=true) (x:Bool) (r3 r4 r5:AObj) (h3:∀ n,2≤n→Zj n r3=true) (h4:∀ n,2≤n→Zj n r4=true) (h5:∀ n,2≤n→Zj n r5=true):
 Zb rE hfD [(4,.ptr 0 0 0 1),(9,I (hfX a.Y p.Y)),(11,I (hfX b.Y p.Y)),(12,I (ZoX p a b))] [.row 1 [I w],.row 1 [.bool x],.loop .busy .normal F [15,16] c284R0a c284R0b,r3,r4,r5] =
  some (.normal,[],[.row 1 [I (Zp4 p a b w)],.row 1 [.bool x],.loop .busy .normal F [15,16] c284R0a c284R0b,r3,r4,r5]):=by
 have t6:decide (hfX a.Y p.Y > 0) = !decide (hfX a.Y p.Y≤0):=by by_cases c:hfX a.Y p.Y≤0<;>simp [c]<;>omega
 have t7:decide (hfX b.Y p.Y≤0) = !decide (hfX b.Y p.Y > 0):=by by_cases c:hfX b.Y p.Y > 0<;>simp [c]<;>omega
 have q3:=h3 6 (by decide)
 have q4:=h4 6 (by decide)
 have q5:=h5 6 (by decide)
 unfold Zp4;rw [t6,t7];generalize hfX a.Y p.Y=ay at *;generalize hfX b.Y p.Y=by' at *
 generalize ZoX p a b=tn at *;cases d3:decide (ay≤0) with
 | true=>
  cases d4:decide (by' > 0) with
  | true=>
   rw [d3] at t6;cases d5:decide (tn > 0) with
   | true=>simp only [go_sem,qy,qq,qx,qz,qv,qk,reduceIte,hfD,d3,d4,d5,hb6,q3,q4,q5]
   | false=>simp only [go_sem,qy,qq,qx,qz,qv,qk,reduceIte,hfD,d3,d4,d5,t6,hb6,q3,q4,q5,ZO9,ZPv,ZOG,cond_false]
  | false=>
   rw [d3] at t6;simp only [go_sem,qy,qq,qx,qz,qv,qk,reduceIte,hfD,d3,d4,t6,hb6,q3,q4,q5,ZO9,ZPv,ZOG,cond_false]
 | false=>
  rw [d3] at t6;cases d4:decide (by' > 0) with
  | true=>
   rw [d4] at t7;simp only [go_sem,qy,qq,qx,qz,qv,qk,reduceIte,hfD,d3,t6,t7,hb6,q3,q4,q5,ZO9,ZOm,ZPv,ZOG,cond_false]
  | false=>
   rw [d4] at t7;cases d8:decide (tn < 0) with
   | true=>simp only [go_sem,qy,qq,qx,qz,qv,qk,reduceIte,hfD,d3,t6,t7,d8,hb6,q3,q4,q5,ZOm,ZOG,cond_false,ZOD,cond_true]
   | false=>simp only [go_sem,qy,qq,qx,qz,qv,qk,reduceIte,hfD,d3,t6,t7,d8,hb6,q3,q4,q5,ZOm,ZOG,cond_false,ZPv]
theorem Zql (v:AV) (hv:∀ n,bel n v=true) (p:Pt) (st:Int×Bool) (q a b:Pt):
 U4 rE 2 [.agg [I a.X,I a.Y],.agg [I b.X,I b.Y]] (hfH v p st++[.row 2 [.agg [I q.X,I q.Y]]]) =
  some (.bool true,hfH v p (Zp4 p a b st.1,st.2||Zp9 p a b)++[.row 2 [.agg [I q.X,I q.Y]],.row 2 [.agg [I a.X,I a.Y]],.row 2 [.agg [I b.X,I b.Y]]]):=by
 have h:=Ss (E:=rE) (b:=2) (args:=[.agg [I a.X,I a.Y],.agg [I b.X,I b.Y]]) (h:=hfH v p st++[.row 2 [.agg [I q.X,I q.Y]]]) (fr:=ZoD v p) (ps:=[15,16]) (assign:=c284R0a) (body:=c284R0b)
  (fr0:=(16,.agg [I b.X,I b.Y])::(15,.agg [I a.X,I a.Y])::ZoD v p) rfl rfl (by simp only [go_sem,qy,qq,qk,c284R0a,hfH,ZoD]<;>rfl) (by rfl)
  (e:=.normal) (fr2:=[]) (h2:=[.row 1 [I (Zp4 p a b st.1)],.row 1 [.bool (st.2||Zp9 p a b)],.loop .busy .normal (ZoD v p) [15,16] c284R0a c284R0b,.row 2 [.agg [I q.X,I q.Y]],.row 2 [.agg [I a.X,I a.Y]],.row 2 [.agg [I b.X,I b.Y]]])
  (by
   show Zb rE hfB [(7,.ptr 5 0 0 1),(6,.ptr 4 0 0 1),(16,.agg [I b.X,I b.Y]),(15,.agg [I a.X,I a.Y]),(14,.clo (.func 276) [] [.iptr false [v]]),(13,v),(0,v),(3,.iptr false [I p.X,I p.Y]),(4,.ptr 0 0 0 1),(5,.ptr 1 0 0 1)]
    [.row 1 [I st.1],.row 1 [.bool st.2],.loop .busy .normal (ZoD v p) [15,16] c284R0a c284R0b,.row 2 [.agg [I q.X,I q.Y]],.row 2 [.agg [I a.X,I a.Y]],.row 2 [.agg [I b.X,I b.Y]]]=_
   have hb6:Zd 6 (frV (ZoD v p))=true:=by simp only [go_sem,qv,ZoD,hv]
   have hr:∀ (z:Pt) n,2≤n→Zj n (.row 2 [.agg [I z.X,I z.Y]])=true:=fun z n _=>rfl
   have hL:=fun x=>Zqk p a b st.1 (ZoD v p) hb6 x (.row 2 [.agg [I q.X,I q.Y]]) (.row 2 [.agg [I a.X,I a.Y]]) (.row 2 [.agg [I b.X,I b.Y]]) (hr q) (hr a) (hr b)
   simp only [hfX,ZoX] at hL;unfold Zp9 ZoX hfX;cases c1:st.2 with
   | true=>
    rw [ZON];simp only [go_sem,qy,qq,qv,reduceIte,hfB,hb6,hL]
   | false=>
    rw [ZPB];cases d1:W (W (W (W (2 * a.X) - p.X) * W (W (2 * b.Y) - p.Y)) - W (W (W (2 * a.Y) - p.Y) * W (W (2 * b.X) - p.X)))==0 with
    | true=>simp only [go_sem,qy,qq,qv,reduceIte,hfB,hb6,hL,d1,ZOq]
    | false=>simp only [go_sem,qy,qq,qv,reduceIte,hfB,hb6,hL,d1,ZOG]) (by rfl)
 exact h
theorem Zqm (l:List Pt) (ex:Bool) (hl:l.length≤1000000) (p:Pt):pfn rE 284 [.isl false ex 2 (l.map Pt.enc),.agg [I p.X,I p.Y]]=some (.tup [I (ZoC l p).1,.bool (ZoC l p).2]):=by
 have hv:∀ n,bel n (.isl false ex 2 (l.map Pt.enc))=true:=fun n=>by
  have:=ZN (n:=n) [.isl false ex 2 (l.map Pt.enc)] (by have:=Zw (f:=Pt.enc) (fun t=>rfl) l;simp only [go_sem])
  unfold Zd at this;rw [ZO2] at this;exact this.1
 have hb3:Zd 3 (frV (ZoD (.isl false ex 2 (l.map Pt.enc)) p))=true:=by simp only [go_sem,qv,ZoD,hv]
 have L:=Y8 (E:=rE) (live:=[0,1,5,6,7]) (b:=c276L0b) l.length (fun i=>[(0,.yld 2),(1,.iptr false [.isl false ex 2 (l.map Pt.enc)]),(5,.isl false ex 2 (l.map Pt.enc)),(6,I l.length),(7,I i)])
  (fun i=>hfH (.isl false ex 2 (l.map Pt.enc)) p ((List.range i).foldl (ZoP p l) (0,false))) (fun i=>rfl)
  (fun i hi=>by
   have h0:0 < l.length:=by omega
   have hg:=YN hi;have hg2:=YN (l:=l) (ZP7 (i+1) h0);have hi':=Zh hi;have hw:=Zx (n:=i) (by omega)
   have hn:=nat_ne h0;have hy:=Zql (.isl false ex 2 (l.map Pt.enc)) hv p ((List.range i).foldl (ZoP p l) (0,false)) (pAt l i) (pAt l i) (pAt l ((i+1) % l.length));have hs:(List.range (i+1)).foldl (ZoP p l) (0,false)=ZoP p l ((List.range i).foldl (ZoP p l) (0,false)) i:=by
    rw [List.range_succ,ZQa];rfl
   rw [hs];generalize (List.range i).foldl (ZoP p l) (0,false)=n at *;unfold ZoP;simp only [hfH,ZOa,ZOl] at hy ⊢;refine ⟨_,by simp only [go_sem,qy,qq,qv,qk,reduceIte,c276L0b,S3,hg,hg2,hi',hw,hn,Jc,hy,Pt.enc,hb3];rfl,?_⟩
   simp only [go_sem,qy])
  (e:=.exit 0) (by simp only [go_sem,qy,qq,qv,reduceIte,hfH,c276L0b,ZG];rfl) (by simp)
 have L':Zg rE [0,1,5,6,7] c276L0b [(0,.yld 2),(1,.iptr false [.isl false ex 2 (l.map Pt.enc)]),(5,.isl false ex 2 (l.map Pt.enc)),(6,I l.length),(7,.int .i64 0)] [.row 1 [.int .i64 0],.row 1 [.bool false],.loop .ready .normal (ZoD (.isl false ex 2 (l.map Pt.enc)) p) [15,16] c284R0a c284R0b]=_:=L;rw [Z5 (f:=284) rfl rfl];have hrf:rf rE (.clo (.func 276) [] [.iptr false [.isl false ex 2 (l.map Pt.enc)]]) [15,16] c284R0a c284R0b (ZoD (.isl false ex 2 (l.map Pt.enc)) p) [.row 1 [.int .i64 0],.row 1 [.bool false]] =
  some (.normal,ZoD (.isl false ex 2 (l.map Pt.enc)) p,[.row 1 [I (ZoC l p).1],.row 1 [.bool (ZoC l p).2],.loop .exhausted .normal (ZoD (.isl false ex 2 (l.map Pt.enc)) p) [15,16] c284R0a c284R0b]):=by
  rw [Z1k (c:=c276) rfl];simp only [go_sem,qy,qq,qv,c276,c276L0,L',hb3];rfl
 simp only [ZoD] at hrf;simp only [go_sem,qy,qq,qv,c284,Z1l,Sr,hrf,hv]
def ZoY (l:List Pt) (p:Pt):Int:=
 bif (!Vh l||Jf p)||((ZoC l ⟨W (2 * p.X),W (2 * p.Y)⟩).1==0&&!(ZoC l ⟨W (2 * p.X),W (2 * p.Y)⟩).2) then -1
 else bif (ZoC l ⟨W (2 * p.X),W (2 * p.Y)⟩).1 != 0&&!(ZoC l ⟨W (2 * p.X),W (2 * p.Y)⟩).2 then 1 else 0
theorem Zqn (l:List Pt) (ex:Bool) (hl:l.length≤1000000) (p:Pt):pfn rE 209 [.isl false ex 2 (l.map Pt.enc),.agg [I p.X,I p.Y]]=some (I (ZoY l p)):=by
 have hV:=Dz l ex hl;have hO:=Z1h p;have hH:=Zqm l ex hl ⟨W (2 * p.X),W (2 * p.Y)⟩;have hO2:pfn rE 255 [.isl false ex 2 (l.map Pt.enc),.agg [I (W (2 * p.X)),I (W (2 * p.Y))]]=some (.bool ((ZoC l ⟨W (2 * p.X),W (2 * p.Y)⟩).1==0&&!(ZoC l ⟨W (2 * p.X),W (2 * p.Y)⟩).2)):=by
  rw [Z5 (f:=255) rfl rfl];cases c:(ZoC l ⟨W (2 * p.X),W (2 * p.Y)⟩).1==0<;>simp only [go_sem,qy,qq,qk,reduceIte,c255,hH,c,ZOq,ZOG]
 have hI:pfn rE 256 [.isl false ex 2 (l.map Pt.enc),.agg [I (W (2 * p.X)),I (W (2 * p.Y))]]=some (.bool ((ZoC l ⟨W (2 * p.X),W (2 * p.Y)⟩).1 != 0&&!(ZoC l ⟨W (2 * p.X),W (2 * p.Y)⟩).2)):=by
  rw [Z5 (f:=256) rfl rfl];cases c:(ZoC l ⟨W (2 * p.X),W (2 * p.Y)⟩).1 != 0<;>simp only [go_sem,qy,qq,qk,reduceIte,c256,hH,c,ZOq,ZOG]
 rw [Z5 (f:=209) rfl rfl];unfold ZoY;generalize ((ZoC l ⟨W (2 * p.X),W (2 * p.Y)⟩).1==0&&!(ZoC l ⟨W (2 * p.X),W (2 * p.Y)⟩).2)=b1 at *;generalize ((ZoC l ⟨W (2 * p.X),W (2 * p.Y)⟩).1 != 0&&!(ZoC l ⟨W (2 * p.X),W (2 * p.Y)⟩).2)=b2 at *;cases c1:Vh l with
 | false=>simp only [go_sem,qy,qq,qv,qk,reduceIte,c209,hV,c1,ZOm,ZON,cond_true]
 | true=>
 cases c2:Jf p with
 | true=>simp only [go_sem,qy,qq,qv,qk,reduceIte,c209,hV,hO,c1,c2,ZO9,ZPB,ZON,cond_true]
 | false=>
 cases b1 with
 | true=>simp only [go_sem,qy,qq,qv,qk,reduceIte,c209,hV,hO,hO2,c1,c2,ZO9,ZPB,cond_true]
 | false=>
 cases b2<;>simp only [go_sem,qy,qq,qv,qk,reduceIte,c209,hV,hO,hO2,hI,c1,c2,ZO9,ZPB,cond_true,cond_false]
end Go.AM
namespace Go.AM
open Go
theorem Z3j (a0 a1 a2 a3:AObj) (b:Bool):trimB 4 [a0,a1,a2,a3] b=[a0,a1,a2,a3]:=by cases b<;>rfl
theorem Z3k (a0 a1 a2 a3 a4:AObj) (b:Bool):trimB 5 [a0,a1,a2,a3,a4] b=[a0,a1,a2,a3,a4]:=by cases b<;>rfl
theorem Z3l (a0 a1 a2 a3 a4 a5:AObj) (b:Bool):trimB 6 [a0,a1,a2,a3,a4,a5] b=[a0,a1,a2,a3,a4,a5]:=by cases b<;>rfl
theorem Z3m (a0 a1 a2 a3 a4 a5 a6:AObj) (b:Bool):trimB 7 [a0,a1,a2,a3,a4,a5,a6] b=[a0,a1,a2,a3,a4,a5,a6]:=by cases b<;>rfl
theorem Z3n (a0 a1 a2 a3 a4 a5 a6 a7:AObj) (b:Bool):trimB 8 [a0,a1,a2,a3,a4,a5,a6,a7] b=[a0,a1,a2,a3,a4,a5,a6,a7]:=by cases b<;>rfl
attribute [go_sem] Z3j Z3k Z3l Z3m Z3n
structure Wk where
 s:Sta
 owner:Int
 e:Event
 kn:List Str
abbrev wkC (w:Wk):List AV:=[.isl false false 6 (w.s.Regions.map Region.enc),.isl false false 5 (w.s.Streets.map Street.enc),.isl false false 4 (w.s.Buildings.map Building.enc),.isl false false 16 (w.s.Doors.map Door.enc),
 .isl false false 6 (w.s.Units.map Unit'.enc),.isl false false 2 (w.s.Merged.map Pair.enc),.isl false false 2 (w.s.Rulings.map Pair.enc),I w.owner,
 I w.e.Kind,I w.e.Day,I w.e.A,I w.e.B,I w.e.Office,.str w.e.Id,.str w.e.Other,.str w.e.Text,.isl false w.e.Ids.ex 1 (w.e.Ids.l.map encS),.isl false w.e.Names.ex 3 (w.e.Names.l.map Nm.enc),
 I w.e.Number.N,.str w.e.Number.Letter,I w.e.Number.Num,I w.e.Number.Den,I w.e.Point.X,I w.e.Point.Y,.isl false w.e.Path.ex 2 (w.e.Path.l.map Pt.enc),.isl false w.e.Lst.ex 7 (w.e.Lst.l.map Ent.enc),
 .isl false false 1 (w.kn.map encS)]
abbrev wH (o0 o1:AObj) (w:Wk):Hp:=[o0,o1,.row 27 [.agg (wkC w)]]
structure WkS (w:Wk):Prop where
 s:StS w.s
 e:EvS w.e
 kn:w.kn.length≤100000
theorem Z3o (b i off g:Nat):Zy (.ptr b i off g)=false:=(rfl)
theorem Z3p (b g off len:Nat) (ex:Bool):Zy (.sl b g off len ex)=false:=(rfl)
theorem Z3q (b:Nat):Zy (.mp b)=false:=(rfl)
attribute [go_sem] Z3o Z3p Z3q
theorem Z3r (n:Nat):bounds none (some (I n)) (some (I n)) n=some (0,n,some n):=by
 simp [bounds,Vz,Wl,VA,numOf,VB,Ue]
def clC (sz:Nat):ACode:=
 .seq (.region [o 2 (.mv (.c (.isl false false sz [])))])<|
 .seq (.keep [2]<|.region [o 3 (.mv (.t 0)),o 4 (.mv (.t 0)),o 5 (.len 1 (.t 4)),o 6 (.mv (.t 0)),o 7 (.len 1 (.t 6)),o 8 (.slc sz (.t 3) none (some (.t 5)) (some (.t 7))),o 2 (.mv (.t 8))])<|
 .ret
theorem Jy {sz f:Nat} (hs:rE.sum f=none) (hf:rE.fn f=some ⟨[.tmp 2],clC sz⟩) (ex:Bool) (es:List AV):pfn rE f [.isl false ex sz es]=some (.isl false true sz es):=by
 have hb:=Z3r es.length;have ht:List.take (es.length - 0) es=es:=ZOs (by omega)
 have hm:(match some es.length with | none=>ex&&es.length==es.length | some m=>m==es.length)=true:=by simp
 rw [Z5 (f:=f) hs hf];simp only [go_sem,qy,qq,clC,hb,hm,ht]
theorem Z3s (es:List AV):pfn rE 78 [.isl false false 6 es]=some (.isl false true 6 es):=Jy rfl rfl false es
theorem Z3t (es:List AV):pfn rE 81 [.isl false false 5 es]=some (.isl false true 5 es):=Jy rfl rfl false es
theorem Z3u (es:List AV):pfn rE 88 [.isl false false 4 es]=some (.isl false true 4 es):=Jy rfl rfl false es
theorem Ft (es:List AV):pfn rE 162 [.isl false false 16 es]=some (.isl false true 16 es):=Jy rfl rfl false es
theorem Z3v (es:List AV):pfn rE 91 [.isl false false 6 es]=some (.isl false true 6 es):=Jy rfl rfl false es
theorem Fu (es:List AV):pfn rE 109 [.isl false false 2 es]=some (.isl false true 2 es):=Jy rfl rfl false es
theorem Vt {h:Hp} {aid sz bytes:Nat} {es ys:List AV} {bw bw2 ex:Bool} (hy:ys.isEmpty=false) (h0:0 < sz) (h1:0 < bytes) (h2:(es.length+ys.length) * bytes≤70368744177664) (hc:Z4 (es++ys)=true):
 Qt h aid true sz bytes (.isl bw true sz es) (.isl bw2 ex sz ys)=some (.isl false false sz (es++ys),[],none):=by
 simp only [Qt,Q2,Qq,beq_self_eq_true,ZON,h0,h1,h2,and_self,if_true,hy,cond_false,Yp,Zs,ZOc,cond_true,hc]
def chC (sz f:Nat):ACode:=
 .seq (.region [o 6 (.mv (.c (.isl false false sz [])))])<|
 .seq (.keep [1,2,7]<|.region [o 8 (.rel (.t 0)),o 9 (.call false f [(.t 8)]),o 7 (.mv (.t 9))])<|
 .seq (.keep [7]<|.region [o 10 (.mv (.t 2)),o 11 (.mv (.t 7)),o 12 (.mv (.t 1)),o 13 (.iadr sz (.t 11) (.t 12)),o 14 (.callv false (.t 10) [(.t 13)])])<|
 .seq (.region [o 15 (.mv (.t 7)),o 6 (.mv (.t 15))])<|
 .ret
theorem Xj {α:Type} {f:α→AV} {sz:Nat} (h:∀ x,fits sz (f x)=true) (l:List α):(l.map f).all (fits sz)=true:=by
 rw [List.all_map,ZO8];intro x _;exact h x
theorem Xk {sz f g fc:Nat} (hs:rE.sum fc=none) (hf:rE.fn fc=some ⟨[.tmp 6],chC sz f⟩) (hcl:rE.sum f=some (YL sz)) (es es' cap:List AV) (v:AV) (ex:Bool) (k:Nat) (hk:k < es.length) (hfit:es.all (fits sz)=true) (hle:es.length≤1000000)
 (h2:fnV rE g (.ptr 0 k 0 es.length::cap) [.row sz es]=some (v,[.row sz es'])) (hl:es'.length=es.length) (hc:Z4 es'=true):
 pfn rE fc [.isl false ex sz es,I k,.clo (.func g) [] cap]=some (.isl false false sz es'):=by
 have h1:fnV rE f [.isl false ex sz es] []=some (.sl 0 es.length 0 es.length false,[.row sz es]):=by
  have hble:Nat.ble es.length 1000000=true:=ZP0 hle;have hne:es.isEmpty=false:=by cases es with | nil=>simp at hk | cons a r=>rfl
  rw [V8 hcl];simp only [YL,Q2,Qq,hfit,hble,hne,beq_self_eq_true,ZON,ZOD,ZOm,cond_true,ZOl,ZOp]
 have hlt:(0≤(k:Int)∧(k:Int) < (es.length:Int)):=by omega
 have hia:iaP 0 es.length 0 sz (k:Int) es.length (some (sz,es))=some (.ptr 0 k 0 es.length):=by
  rw [VT _ _ _ _ _ _ _ hlt];simp
 have ht:List.take es.length es'=es':=ZOs (by omega)
 rw [Z5 (f:=fc) hs hf];simp only [go_sem,qy,qq,qv,chC,h1,hia,RL,h2,beq_self_eq_true,hl,ht,hc]
def twB (w:Wk) (id:Str):Bool:=w.kn.any (fun x=>Z3 id x)
theorem Wj (w:Wk) (hw:WkS w) (id:Str):pfn rE 77 [.iptr true (wkC w),.str id]=some (.bool (twB w id)):=by
 have h:=Nz (f:=201) (enc:=encS) (p:=fun x=>Z3 id x) (v:=.str id) rfl rfl w.kn (by have:=hw.kn;omega) (fun x _=>rfl) rfl (fun x _=>rfl) false false
 have h2:pfn rE 155 [.isl false false 1 (w.kn.map encS),.str id]=some (.bool (w.kn.any (fun x=>Z3 id x))):=by
  rw [Z5 (f:=155) rfl rfl,←Vg];unfold WG;simp only [go_sem,qy,qq,reduceIte,c155,h]
 rw [Z5 (f:=77) rfl rfl];unfold twB;simp only [go_sem,qy,qq,c77,h2]
def NP (w:Wk):Street:=⟨w.e.Id,w.owner,w.e.Path,⟨false,[]⟩,-1⟩
def NQ (w:Wk):Building:=⟨w.e.Id,w.owner,w.e.Path,-1⟩
def Jz (w:Wk):Wk:={ w with s:={ w.s with Streets:=w.s.Streets++[NP w] } }
def JA (w:Wk):Wk:={ w with s:={ w.s with Buildings:=w.s.Buildings++[NQ w] } }
def Hh (w:Wk):Wk:={ w with s:={ w.s with Rulings:=w.s.Rulings++[⟨w.e.A,w.e.B⟩] } }
theorem Z3w (o0 o1:AObj) (w:Wk) (hw:WkS w):∃ t,fnV rE 38 [.ptr 2 0 0 1] (wH o0 o1 w)=some (I (bif twB w w.e.Id then 8 else 0),wH o0 o1 (bif twB w w.e.Id then w else Jz w)++t):=by
 have htw:=Wj w hw w.e.Id;have hcs:Z4 (w.s.Streets.map Street.enc)=true:=Zw (fun t=>rfl) _
 have ha:=fun (h:Hp) (aid:Nat)=>Vt (h:=h) (aid:=aid) (sz:=5) (bytes:=80) (es:=w.s.Streets.map Street.enc) (ys:=[.agg [.str w.e.Id,I w.owner,.isl false w.e.Path.ex 2 (w.e.Path.l.map Pt.enc),.isl false false 3 [],I (-1)]]) (bw:=false) (bw2:=false) (ex:=false) rfl (by omega) (by omega) (by have:=hw.s.streets;simp;omega) (by simp only [XA,hcs];rfl)
 rw [Q6 (f:=38) rfl rfl];cases c:twB w w.e.Id with
 | true=>
  rw [c] at htw;refine ⟨[],?_⟩;simp only [go_sem,qy,qq,qv,c38,htw,ZOc]
 | false=>
  rw [c] at htw;refine ⟨[],?_⟩;simp only [go_sem,qy,qq,qv,qk,c38,htw,Z3t,wrB,appW,ha,ZM,ZH,Jz,NP,ZOk,wH,wkC,Street.enc,NL.enc,ZOc]
theorem Z3x (o0 o1:AObj) (w:Wk) (hw:WkS w):∃ t,fnV rE 41 [.ptr 2 0 0 1] (wH o0 o1 w)=some (I (bif twB w w.e.Id then 8 else 0),wH o0 o1 (bif twB w w.e.Id then w else JA w)++t):=by
 have htw:=Wj w hw w.e.Id;have hcs:Z4 (w.s.Buildings.map Building.enc)=true:=Zw (fun t=>rfl) _
 have ha:=fun (h:Hp) (aid:Nat)=>Vt (h:=h) (aid:=aid) (sz:=4) (bytes:=56) (es:=w.s.Buildings.map Building.enc) (ys:=[.agg [.str w.e.Id,I w.owner,.isl false w.e.Path.ex 2 (w.e.Path.l.map Pt.enc),I (-1)]]) (bw:=false) (bw2:=false) (ex:=false) rfl (by omega) (by omega) (by have:=hw.s.buildings;simp;omega) (by simp only [XA,hcs];rfl)
 rw [Q6 (f:=41) rfl rfl];cases c:twB w w.e.Id with
 | true=>
  rw [c] at htw;refine ⟨[],?_⟩;simp only [go_sem,qy,qq,qv,c41,htw,ZOc]
 | false=>
  rw [c] at htw;refine ⟨[],?_⟩;simp only [go_sem,qy,qq,qv,qk,c41,htw,Z3u,wrB,appW,ha,ZM,ZH,JA,NQ,ZOk,wH,wkC,Building.enc,NL.enc,ZOc]
theorem Z3y (o0 o1:AObj) (w:Wk) (hw:WkS w):∃ t,fnV rE 50 [.ptr 2 0 0 1] (wH o0 o1 w)=some (I 0,wH o0 o1 (Hh w)++t):=by
 have hcs:Z4 (w.s.Rulings.map Pair.enc)=true:=Zw (fun t=>rfl) _
 have ha:=fun (h:Hp) (aid:Nat)=>Vt (h:=h) (aid:=aid) (sz:=2) (bytes:=16) (es:=w.s.Rulings.map Pair.enc) (ys:=[.agg [I w.e.A,I w.e.B]]) (bw:=false) (bw2:=false) (ex:=false) rfl (by omega) (by omega) (by have:=hw.s.rulings;simp;omega) (by simp only [XA,hcs];rfl)
 rw [Q6 (f:=50) rfl rfl];refine ⟨[],?_⟩;simp only [go_sem,qy,qq,qv,qk,c50,Fu,wrB,appW,ha,ZM,ZH,Hh,ZOk,wH,wkC,Pair.enc,ZOc]
def NR (w:Wk):Unit':=⟨w.e.Id,w.e.Other,w.e.Text,w.e.Day,-1,0⟩
def JB (w:Wk):Int:=bif twB w w.e.Id then 8 else bif decide (Zn w.s w.e.Other < 0) then 10 else bif QN w.s (Zn w.s w.e.Other) != -1 then 11 else 0
def JC (w:Wk):Wk:={ w with s:={ w.s with Units:=w.s.Units++[NR w] } }
theorem Z3z (o0 o1:AObj) (w:Wk) (hw:WkS w):∃ t,fnV rE 43 [.ptr 2 0 0 1] (wH o0 o1 w)=some (I (JB w),wH o0 o1 (bif JB w==0 then JC w else w)++t):=by
 have htw:=Wj w hw w.e.Id;have hf:=find_ok w.s hw.s w.e.Other;have hcs:Z4 (w.s.Units.map Unit'.enc)=true:=Zw (fun t=>rfl) _
 have ha:=fun (h:Hp) (aid:Nat)=>Vt (h:=h) (aid:=aid) (sz:=6) (bytes:=72) (es:=w.s.Units.map Unit'.enc) (ys:=[.agg [.str w.e.Id,.str w.e.Other,.str w.e.Text,I w.e.Day,I (-1),I 0]]) (bw:=false) (bw2:=false) (ex:=false) rfl (by omega) (by omega) (by have:=hw.s.units;simp;omega) (by simp only [XA,hcs];rfl)
 have z8:((8:Int)==0)=false:=rfl;have z10:((10:Int)==0)=false:=rfl;have z11:((11:Int)==0)=false:=rfl;have z0:((0:Int)==0)=true:=rfl;rw [Q6 (f:=43) rfl rfl];unfold JB;refine ⟨[],?_⟩;cases c:twB w w.e.Id with
 | true=>
  rw [c] at htw;simp only [go_sem,qy,qq,qv,qk,c43,htw,hf,z8,ZOc]
 | false=>
 rw [c] at htw;cases c1:decide (Zn w.s w.e.Other < 0) with
 | true=>simp only [go_sem,qy,qq,qv,qk,reduceIte,c43,htw,hf,c1,z10,ZOc]
 | false=>
 obtain ⟨j,y,hj,hy⟩:=QC c1;have hj':Zn w.s w.e.Other=(j:Int):=hj;have gy:=Z6 (f:=Door.enc) hy;have hdE:QN w.s (Zn w.s w.e.Other)=y.Ended:=by rw [hj'];simp [QN,hy]
 rw [hdE];rw [hj'] at hf c1;cases c2:y.Ended != -1 with
 | true=>simp only [go_sem,qy,qq,qv,qk,reduceIte,c43,htw,hf,c1,gy,Door.enc,NL.enc,c2,z11,ZOc]
 | false=>simp only [go_sem,qy,qq,qv,qk,reduceIte,c43,htw,hf,c1,gy,Door.enc,NL.enc,c2,z0,Z3v,wrB,appW,ha,ZM,ZH,JC,NR,ZOk,wH,wkC,Unit'.enc,ZOc]
def Xl (w:Wk) (d:Door):Door:={ d with Owner:=w.owner,From:=w.e.Day,Ended:=-1 }
def Qw (w:Wk) (d:Door):Wk:={ w with s:={ w.s with Doors:=w.s.Doors++[Xl w d] } }
theorem Fv (o0 o1:AObj) (w:Wk) (hw:WkS w) (d:Door) (t:Hp) (ht:t=[]∨(∃ x,t=[x])∨(∃ x y,t=[x,y])∨∃ x y z,t=[x,y,z]):
 ∃ q,fnV rE 90 [.ptr 2 0 0 1,Zo d] (wH o0 o1 w++t)=some (.tup [],wH o0 o1 (Qw w d)++t++[q])∧∀ n,Zj n q=true:=by
 have hcs:Z4 (w.s.Doors.map Door.enc)=true:=Zw (fun t=>rfl) _
 have ha:=fun (h:Hp) (aid:Nat)=>Vt (h:=h) (aid:=aid) (sz:=16) (bytes:=184) (es:=w.s.Doors.map Door.enc) (ys:=[Zo (Xl w d)]) (bw:=false) (bw2:=false) (ex:=false) rfl (by omega) (by omega) (by have:=hw.s.doors;simp;omega) (by simp only [XA,hcs];rfl)
 refine ⟨.row 16 [Zo (Xl w d)],?_,fun n=>rfl⟩
 unfold Zo Xl at ha ⊢;simp only at ha ⊢;rw [Q6 (f:=90) rfl rfl];rcases ht with rfl | ⟨x,rfl⟩ | ⟨x,y,rfl⟩ | ⟨x,y,z,rfl⟩<;>
  simp only [go_sem,qy,qq,qv,qk,c90,Ft,wrB,appW,ha,ZM,ZH,Qw,Xl,ZOk,wH,wkC,Door.enc,NL.enc,ZOc]
end Go.AM
namespace Go.AM
open Go
def UD (w:Wk):Door:=⟨w.e.Id,emp,emp,0,⟨0,emp,0,0⟩,⟨0,0⟩,0,0,⟨false,[]⟩,0,w.e.Office,w.e.Text⟩
def UE (w:Wk):Door:=⟨w.e.Id,w.e.Other,w.e.Text,0,w.e.Number,w.e.Point,0,0,⟨false,[]⟩,0,0,emp⟩
theorem Z3A (o0 o1:AObj) (h0:∀ n,Zj n o0=true) (h1:∀ n,Zj n o1=true) (w:Wk) (hw:WkS w):∃ t,fnV rE 51 [.ptr 2 0 0 1] (wH o0 o1 w)=some (I (bif twB w w.e.Id then 8 else 0),wH o0 o1 (bif twB w w.e.Id then w else Qw w (UD w))++t):=by
 have htw:=Wj w hw w.e.Id;obtain ⟨q,ho,hq⟩:=Fv o0 o1 w hw (UD w) [] (Or.inl rfl);rw [ZOc,ZOc] at ho;have ho':fnV rE 90 [.ptr 2 0 0 1,.agg [.str w.e.Id,.str emp,.str emp,I 0,I 0,.str emp,I 0,I 0,I 0,I 0,I 0,I 0,.isl false false 1 [],I 0,I w.e.Office,.str w.e.Text]] (wH o0 o1 w)=_:=ho;rw [Q6 (f:=51) rfl rfl];refine ⟨[],?_⟩;cases c:twB w w.e.Id with
 | true=>
  rw [c] at htw;simp only [go_sem,qy,qq,qv,c51,htw,ZOc]
 | false=>
  rw [c] at htw;simp only [go_sem,qy,qq,qv,qk,c51,htw,ho',wH,h0,h1,ZOc]
def JD (w:Wk):Int:=bif twB w w.e.Id then 8 else bif decide (Y1 w.s w.e.Other < 0)||decide (ZL w.s w.e.Text < 0) then 10 else bif WL w.s (Y1 w.s w.e.Other) != -1||QF w.s (ZL w.s w.e.Text) != -1 then 11 else 0
theorem Z3B (o0 o1:AObj) (h0:∀ n,Zj n o0=true) (h1:∀ n,Zj n o1=true) (w:Wk) (hw:WkS w):∃ t,fnV rE 42 [.ptr 2 0 0 1] (wH o0 o1 w)=some (I (JD w),wH o0 o1 (bif JD w==0 then Qw w (UE w) else w)++t):=by
 have htw:=Wj w hw w.e.Id;have hb:=Hb w.s hw.s w.e.Other;have ht:=K7 w.s hw.s w.e.Text;obtain ⟨q,ho,hq⟩:=Fv o0 o1 w hw (UE w) [] (Or.inl rfl);rw [ZOc,ZOc] at ho;have ho':fnV rE 90 [.ptr 2 0 0 1,.agg [.str w.e.Id,.str w.e.Other,.str w.e.Text,I 0,I w.e.Number.N,.str w.e.Number.Letter,I w.e.Number.Num,I w.e.Number.Den,I w.e.Point.X,I w.e.Point.Y,I 0,I 0,.isl false false 1 [],I 0,I 0,.str emp]] (wH o0 o1 w)=_:=ho;have z8:((8:Int)==0)=false:=rfl;have z10:((10:Int)==0)=false:=rfl;have z11:((11:Int)==0)=false:=rfl;have z0:((0:Int)==0)=true:=rfl;rw [Q6 (f:=42) rfl rfl];unfold JD;refine ⟨[],?_⟩;cases c:twB w w.e.Id with
 | true=>rw [c] at htw;simp only [go_sem,qy,qq,qv,qk,c42,htw,hb,ht,z8,ZOc]
 | false=>
 rw [c] at htw;cases c1:decide (Y1 w.s w.e.Other < 0) with
 | true=>simp only [go_sem,qy,qq,qv,qk,reduceIte,c42,htw,hb,ht,c1,z10,ZOc]
 | false=>
 cases c2:decide (ZL w.s w.e.Text < 0) with
 | true=>simp only [go_sem,qy,qq,qv,qk,reduceIte,c42,htw,hb,ht,c1,c2,z10,ZOc]
 | false=>
 obtain ⟨j,x,hj,hx⟩:=QC c1;obtain ⟨k,y,hk,hy⟩:=QC c2;have hj':Y1 w.s w.e.Other=(j:Int):=hj;have hk':ZL w.s w.e.Text=(k:Int):=hk;have hbE:WL w.s (Y1 w.s w.e.Other)=x.Ended:=by rw [hj'];simp [WL,hx]
 have hsE:QF w.s (ZL w.s w.e.Text)=y.Ended:=by rw [hk'];simp [QF,hy]
 have gx:=Z6 (f:=Building.enc) hx;have gy:=Z6 (f:=Street.enc) hy;rw [hbE,hsE];rw [hj'] at hb c1;rw [hk'] at ht c2;cases c5003:x.Ended != -1 with
 | true=>simp only [go_sem,qy,qq,qv,qk,reduceIte,c42,htw,hb,ht,c1,c2,gx,Building.enc,NL.enc,c5003,z11,ZOc]
 | false=>
 cases c5004:y.Ended != -1 with
 | true=>simp only [go_sem,qy,qq,qv,qk,reduceIte,c42,htw,hb,ht,c1,c2,gx,gy,Building.enc,Street.enc,NL.enc,c5003,c5004,z11,ZOc]
 | false=>simp only [go_sem,qy,qq,qv,qk,reduceIte,c42,htw,hb,ht,c1,c2,gx,gy,Building.enc,Street.enc,NL.enc,c5003,c5004,z0,ho',h0,h1,ZOc]
def ZK {α:Type} (l:List α) (k:Nat) (f:α→α):List α:=match l[k]? with | some x=>l.set k (f x) | none=>l
theorem YA {α:Type} {l:List α} {k:Nat} {x:α} (h:l[k]? = some x) (f:α→α):ZK l k f=l.set k (f x):=by simp [ZK,h]
def NS (p:NL Pt) (x:Region):Region:={ x with Ring:=p }
def NT (p:NL Nm) (x:Region):Region:={ x with Names:=p }
def XN (p:NL Nm) (x:Street):Street:={ x with Names:=p }
theorem Z3C (w:Wk) (l:List Region) (k:Nat) (x:Region) (hx:l[k]? = some x) (hle:l.length≤1000000):pfn rE 79 [.isl false false 6 (l.map Region.enc),I k,.clo (.func 80) [] [.iptr true [.iptr true (wkC w)]]]=some (.isl false false 6 ((ZK l k (NS w.e.Path)).map Region.enc)):=by
 have hk:=Z7 hx;have hg:=Z6 (f:=Region.enc) hx;rw [YA hx,ZOw];refine Xk (sz:=6) (f:=156) rfl rfl rfl _ _ _ (.tup []) false k (by simpa using hk) (Xj (fun _=>rfl) _) (by simpa using hle) ?_ (by simp) ?_
 ·rw [Q6 (f:=80) rfl rfl];simp only [go_sem,qy,qq,qk,c80,beq_self_eq_true,hg,Region.enc,NL.enc,NS]
 ·rw [←ZOw];exact Zw (fun t=>rfl) _
theorem Z3D (w:Wk) (l:List Region) (k:Nat) (x:Region) (hx:l[k]? = some x) (hle:l.length≤1000000):pfn rE 79 [.isl false false 6 (l.map Region.enc),I k,.clo (.func 83) [] [.iptr true [.iptr true (wkC w)]]]=some (.isl false false 6 ((ZK l k (NT w.e.Names)).map Region.enc)):=by
 have hk:=Z7 hx;have hg:=Z6 (f:=Region.enc) hx;rw [YA hx,ZOw];refine Xk (sz:=6) (f:=156) rfl rfl rfl _ _ _ (.tup []) false k (by simpa using hk) (Xj (fun _=>rfl) _) (by simpa using hle) ?_ (by simp) ?_
 ·rw [Q6 (f:=83) rfl rfl];simp only [go_sem,qy,qq,qk,c83,beq_self_eq_true,hg,Region.enc,NL.enc,NT]
 ·rw [←ZOw];exact Zw (fun t=>rfl) _
theorem Z3E (w:Wk) (l:List Street) (k:Nat) (x:Street) (hx:l[k]? = some x) (hle:l.length≤1000000):pfn rE 84 [.isl false false 5 (l.map Street.enc),I k,.clo (.func 85) [] [.iptr true [.iptr true (wkC w)]]]=some (.isl false false 5 ((ZK l k (XN w.e.Names)).map Street.enc)):=by
 have hk:=Z7 hx;have hg:=Z6 (f:=Street.enc) hx;rw [YA hx,ZOw];refine Xk (sz:=5) (f:=159) rfl rfl rfl _ _ _ (.tup []) false k (by simpa using hk) (Xj (fun _=>rfl) _) (by simpa using hle) ?_ (by simp) ?_
 ·rw [Q6 (f:=85) rfl rfl];simp only [go_sem,qy,qq,qk,c85,beq_self_eq_true,hg,Street.enc,NL.enc,XN]
 ·rw [←ZOw];exact Zw (fun t=>rfl) _
theorem Z3F (p:NL Nm) (l:List Street) (k:Nat) (x:Street) (hx:l[k]? = some x) (hle:l.length≤1000000):pfn rE 84 [.isl false false 5 (l.map Street.enc),I k,.clo (.func 86) [] [.iptr true [.isl false p.ex 3 (p.l.map Nm.enc)]]]=some (.isl false false 5 ((ZK l k (XN p)).map Street.enc)):=by
 have hk:=Z7 hx;have hg:=Z6 (f:=Street.enc) hx;rw [YA hx,ZOw];refine Xk (sz:=5) (f:=159) rfl rfl rfl _ _ _ (.tup []) false k (by simpa using hk) (Xj (fun _=>rfl) _) (by simpa using hle) ?_ (by simp) ?_
 ·rw [Q6 (f:=86) rfl rfl];simp only [go_sem,qy,qq,qk,c86,beq_self_eq_true,hg,Street.enc,NL.enc,XN]
 ·rw [←ZOw];exact Zw (fun t=>rfl) _
theorem Z3G (p:NL Nm) (l:List Street) (k:Nat) (x:Street) (hx:l[k]? = some x) (hle:l.length≤1000000):pfn rE 84 [.isl false false 5 (l.map Street.enc),I k,.clo (.func 87) [] [.iptr true [.isl false p.ex 3 (p.l.map Nm.enc)]]]=some (.isl false false 5 ((ZK l k (XN p)).map Street.enc)):=by
 have hk:=Z7 hx;have hg:=Z6 (f:=Street.enc) hx;rw [YA hx,ZOw];refine Xk (sz:=5) (f:=159) rfl rfl rfl _ _ _ (.tup []) false k (by simpa using hk) (Xj (fun _=>rfl) _) (by simpa using hle) ?_ (by simp) ?_
 ·rw [Q6 (f:=87) rfl rfl];simp only [go_sem,qy,qq,qk,c87,beq_self_eq_true,hg,Street.enc,NL.enc,XN]
 ·rw [←ZOw];exact Zw (fun t=>rfl) _
def Fw (w:Wk):Region:=⟨w.e.Id,w.e.A,w.owner,w.e.Path,⟨false,[]⟩,-1⟩
def WM (s:Sta) (k:Int):Int:=match s.Regions[k.toNat]? with | some b=>b.Ended | none=>0
def NU (s:Sta) (k:Int):Int:=match s.Regions[k.toNat]? with | some b=>b.Kind | none=>0
def Hi (w:Wk):Int:=bif decide (Qo w.s w.e.Id < 0) then (bif twB w w.e.Id then 8 else 0) else bif WM w.s (Qo w.s w.e.Id) != -1||NU w.s (Qo w.s w.e.Id) != w.e.A then 11 else 0
def Hj (w:Wk):Wk:={ w with s:={ w.s with Regions:=bif decide (Qo w.s w.e.Id < 0) then w.s.Regions++[Fw w] else ZK w.s.Regions (Qo w.s w.e.Id).toNat (NS w.e.Path) } }
theorem Z3H (o0 o1:AObj) (h0:∀ n,Zj n o0=true) (h1:∀ n,Zj n o1=true) (w:Wk) (hw:WkS w):∃ t,fnV rE 37 [.ptr 2 0 0 1] (wH o0 o1 w)=some (I (Hi w),wH o0 o1 (bif Hi w==0 then Hj w else w)++t):=by
 have htw:=Wj w hw w.e.Id;have hr:=NI w.s hw.s w.e.Id;have hcs:Z4 (w.s.Regions.map Region.enc)=true:=Zw (fun t=>rfl) _
 have ha:=fun (h:Hp) (aid:Nat)=>Vt (h:=h) (aid:=aid) (sz:=6) (bytes:=88) (es:=w.s.Regions.map Region.enc) (ys:=[.agg [.str w.e.Id,I w.e.A,I w.owner,.isl false w.e.Path.ex 2 (w.e.Path.l.map Pt.enc),.isl false false 3 [],I (-1)]]) (bw:=false) (bw2:=false) (ex:=false) rfl (by omega) (by omega) (by have:=hw.s.regions;simp;omega) (by simp only [XA,hcs];rfl)
 have z8:((8:Int)==0)=false:=rfl;have z11:((11:Int)==0)=false:=rfl;have z0:((0:Int)==0)=true:=rfl;rw [Q6 (f:=37) rfl rfl];unfold Hi Hj;refine ⟨[.row 1 [.ptr 2 0 0 1]],?_⟩;cases c1:decide (Qo w.s w.e.Id < 0) with
 | true=>
  cases c:twB w w.e.Id with
  | true=>rw [c] at htw;simp only [go_sem,qy,qq,qv,qk,reduceIte,c37,wH,htw,hr,c1,z8]
  | false=>
   rw [c] at htw;simp only [go_sem,qy,qq,qv,qk,reduceIte,c37,htw,hr,c1,z0,Z3s,wrB,appW,ha,ZM,ZH,Fw,ZOk,wH,wkC,Region.enc,NL.enc]
 | false=>
  obtain ⟨j,x,hj,hx⟩:=QC c1;have hj':Qo w.s w.e.Id=(j:Int):=hj;have gx:=Z6 (f:=Region.enc) hx;have hE:WM w.s (j:Int)=x.Ended:=by simp [WM,hx]
  have hK:NU w.s (j:Int)=x.Kind:=by simp [NU,hx]
  have hn:((j:Int)).toNat=j:=rfl;have hch:=Z3C w w.s.Regions j x hx (by have:=hw.s.regions;omega)
  rw [hj'] at hr c1 ⊢;rw [hE,hK,hn];cases c5003:x.Ended != -1 with
  | true=>simp only [go_sem,qy,qq,qv,qk,reduceIte,c37,wH,hr,c1,gx,Region.enc,NL.enc,c5003,z11]
  | false=>
  cases c5004:x.Kind != w.e.A with
  | true=>simp only [go_sem,qy,qq,qv,qk,reduceIte,c37,wH,hr,c1,gx,Region.enc,NL.enc,c5003,c5004,z11]
  | false=>simp only [go_sem,qy,qq,qv,qk,reduceIte,c37,wH,hr,c1,gx,Region.enc,NL.enc,c5003,c5004,z0,hch]
end Go.AM
namespace Go.AM
open Go
def Hk (w:Wk):Int:=
 bif decide (Qo w.s w.e.Id < 0)&&decide (ZL w.s w.e.Id < 0) then 10
 else bif (decide (Qo w.s w.e.Id ≥ 0)&&WM w.s (Qo w.s w.e.Id) != -1)||(decide (ZL w.s w.e.Id ≥ 0)&&QF w.s (ZL w.s w.e.Id) != -1) then 11 else 0
def Hl (w:Wk):Wk:=
 bif decide (Qo w.s w.e.Id ≥ 0) then { w with s:={ w.s with Regions:=ZK w.s.Regions (Qo w.s w.e.Id).toNat (NT w.e.Names) } }
 else { w with s:={ w.s with Streets:=ZK w.s.Streets (ZL w.s w.e.Id).toNat (XN w.e.Names) } }
theorem K9 {n:Int} (h:decide (n < 0)=false):decide (n ≥ 0)=true:=decide_eq_true (by have:=of_decide_eq_false h;omega)
theorem JE {n:Int} (h:decide (n < 0)=true):decide (n ≥ 0)=false:=decide_eq_false (by have:=of_decide_eq_true h;omega)
theorem Z3I (o0 o1:AObj) (h0:∀ n,Zj n o0=true) (h1:∀ n,Zj n o1=true) (w:Wk) (hw:WkS w):∃ t,fnV rE 39 [.ptr 2 0 0 1] (wH o0 o1 w)=some (I (Hk w),wH o0 o1 (bif Hk w==0 then Hl w else w)++t):=by
 have hr:=NI w.s hw.s w.e.Id;have ht:=K7 w.s hw.s w.e.Id;have z10:((10:Int)==0)=false:=rfl;have z11:((11:Int)==0)=false:=rfl;have z0:((0:Int)==0)=true:=rfl;rw [Q6 (f:=39) rfl rfl];unfold Hk Hl;refine ⟨[.row 1 [.ptr 2 0 0 1]],?_⟩;cases c1:decide (Qo w.s w.e.Id < 0) with
 | true=>
  have d1:=JE c1;cases c2:decide (ZL w.s w.e.Id < 0) with
  | true=>simp only [go_sem,qy,qq,qv,qk,reduceIte,c39,wH,hr,ht,c1,c2,z10]
  | false=>
   have d2:=K9 c2;obtain ⟨k,y,hk,hy⟩:=QC c2;have hk':ZL w.s w.e.Id=(k:Int):=hk;have gy:=Z6 (f:=Street.enc) hy;have hsE:QF w.s (k:Int)=y.Ended:=by simp [QF,hy]
   have hn:((k:Int)).toNat=k:=rfl;have hch:=Z3E w w.s.Streets k y hy (by have:=hw.s.streets;omega)
   rw [hk'] at ht c2 d2 ⊢;rw [hsE,hn];cases c5003:y.Ended != -1 with
   | true=>simp only [go_sem,qy,qq,qv,qk,reduceIte,c39,wH,hr,ht,c1,c2,d1,d2,gy,Street.enc,NL.enc,c5003,z11]
   | false=>simp only [go_sem,qy,qq,qv,qk,reduceIte,c39,wH,hr,ht,c1,c2,d1,d2,gy,Street.enc,NL.enc,c5003,z0,hch]
 | false=>
  have d1:=K9 c1;obtain ⟨j,x,hj,hx⟩:=QC c1;have hj':Qo w.s w.e.Id=(j:Int):=hj;have gx:=Z6 (f:=Region.enc) hx;have hrE:WM w.s (j:Int)=x.Ended:=by simp [WM,hx]
  have hnj:((j:Int)).toNat=j:=rfl;have hch:=Z3D w w.s.Regions j x hx (by have:=hw.s.regions;omega)
  rw [hj'] at hr c1 d1 ⊢;rw [hrE,hnj];cases c5003:x.Ended != -1 with
  | true=>simp only [go_sem,qy,qq,qv,qk,reduceIte,c39,wH,hr,ht,c1,d1,gx,Region.enc,NL.enc,c5003,z11]
  | false=>
  cases c2:decide (ZL w.s w.e.Id < 0) with
  | true=>
   have d2:=JE c2;simp only [go_sem,qy,qq,qv,qk,reduceIte,c39,wH,hr,ht,c1,d1,d2,gx,Region.enc,NL.enc,c5003,z0,hch]
  | false=>
   have d2:=K9 c2;obtain ⟨k,y,hk,hy⟩:=QC c2;have hk':ZL w.s w.e.Id=(k:Int):=hk;have gy:=Z6 (f:=Street.enc) hy;have hsE:QF w.s (k:Int)=y.Ended:=by simp [QF,hy]
   rw [hk'] at ht c2 d2 ⊢;rw [hsE];cases c5004:y.Ended != -1 with
   | true=>simp only [go_sem,qy,qq,qv,qk,reduceIte,c39,wH,hr,ht,c1,d1,d2,gx,gy,Region.enc,Street.enc,NL.enc,c5003,c5004,z11]
   | false=>simp only [go_sem,qy,qq,qv,qk,reduceIte,c39,wH,hr,ht,c1,d1,d2,gx,gy,Region.enc,Street.enc,NL.enc,c5003,c5004,z0,hch]
def Hm (w:Wk):Int:=
 bif decide (ZL w.s w.e.Id < 0)||decide (ZL w.s w.e.Other < 0) then 10 else bif QF w.s (ZL w.s w.e.Id) != -1||QF w.s (ZL w.s w.e.Other) != -1 then 11 else 0
def JF (s:Sta) (k:Nat):NL Nm:=match s.Streets[k]? with | some x=>x.Names | none=>⟨false,[]⟩
def exW (w:Wk):Wk:={ w with s:={ w.s with Streets:=ZK (ZK w.s.Streets (ZL w.s w.e.Id).toNat (XN (JF w.s (ZL w.s w.e.Other).toNat))) (ZL w.s w.e.Other).toNat (XN (JF w.s (ZL w.s w.e.Id).toNat)) } }
theorem Xm {α:Type} (l:List α) (k:Nat) (f:α→α):(ZK l k f).length=l.length:=by
 unfold ZK;cases l[k]?<;>simp
theorem Z3J (o0 o1:AObj) (h0:∀ n,Zj n o0=true) (h1:∀ n,Zj n o1=true) (w:Wk) (hw:WkS w):∃ t,fnV rE 40 [.ptr 2 0 0 1] (wH o0 o1 w)=some (I (Hm w),wH o0 o1 (bif Hm w==0 then exW w else w)++t):=by
 have hr:=K7 w.s hw.s w.e.Id;have ht:=K7 w.s hw.s w.e.Other;have z10:((10:Int)==0)=false:=rfl;have z11:((11:Int)==0)=false:=rfl;have z0:((0:Int)==0)=true:=rfl;rw [Q6 (f:=40) rfl rfl];unfold Hm exW;cases c1:decide (ZL w.s w.e.Id < 0) with
 | true=>refine ⟨[],?_⟩;simp only [go_sem,qy,qq,qv,qk,reduceIte,c40,wH,hr,ht,c1,z10,ZOc]
 | false=>
 cases c2:decide (ZL w.s w.e.Other < 0) with
 | true=>refine ⟨[],?_⟩;simp only [go_sem,qy,qq,qv,qk,reduceIte,c40,wH,hr,ht,c1,c2,z10,ZOc]
 | false=>
 obtain ⟨j,x,hj,hx⟩:=QC c1;obtain ⟨k,y,hk,hy⟩:=QC c2;have hj':ZL w.s w.e.Id=(j:Int):=hj;have hk':ZL w.s w.e.Other=(k:Int):=hk;have gx:=Z6 (f:=Street.enc) hx;have gy:=Z6 (f:=Street.enc) hy;have hxE:QF w.s (j:Int)=x.Ended:=by simp [QF,hx]
 have hyE:QF w.s (k:Int)=y.Ended:=by simp [QF,hy]
 have hnj:((j:Int)).toNat=j:=rfl;have hnk:((k:Int)).toNat=k:=rfl;have hxN:JF w.s j=x.Names:=by simp [JF,hx]
 have hyN:JF w.s k=y.Names:=by simp [JF,hy]
 rw [hj'] at hr c1 ⊢;rw [hk'] at ht c2 ⊢;rw [hxE,hyE,hnj,hnk,hxN,hyN];cases c5003:x.Ended != -1 with
 | true=>refine ⟨[],?_⟩;simp only [go_sem,qy,qq,qv,qk,reduceIte,c40,wH,hr,ht,c1,c2,gx,Street.enc,NL.enc,c5003,z11,ZOc]
 | false=>
 cases c5004:y.Ended != -1 with
 | true=>refine ⟨[],?_⟩;simp only [go_sem,qy,qq,qv,qk,reduceIte,c40,wH,hr,ht,c1,c2,gx,gy,Street.enc,NL.enc,c5003,c5004,z11,ZOc]
 | false=>
  have hch:=Z3F y.Names w.s.Streets j x hx (by have:=hw.s.streets;omega)
  obtain ⟨y',hy'⟩:∃ y',(ZK w.s.Streets j (XN y.Names))[k]? = some y':=⟨_,ZO6 (by rw [Xm];exact Z7 hy)⟩
  have hch2:=Z3G x.Names (ZK w.s.Streets j (XN y.Names)) k y' hy' (by have:=hw.s.streets;rw [Xm];omega)
  refine ⟨[.row 1 [.isl false x.Names.ex 3 (x.Names.l.map Nm.enc)],.row 1 [.isl false y.Names.ex 3 (y.Names.l.map Nm.enc)]],?_⟩;simp only [go_sem,qy,qq,qv,qk,reduceIte,c40,wH,hr,ht,c1,c2,gx,gy,Street.enc,NL.enc,c5003,c5004,z0,hch,hch2,h0,h1]
def WN (s:Sta) (b:Int):Nat→Int→Bool
 | 0,_=>false
 | k+1,at'=>bif decide (at' ≥ 0) then (bif at'==b then true else WN s b k (XJ s at')) else false
def Hn (w:Wk):Int:=bif decide (XJ w.s w.e.B ≥ 0) then 11 else bif WN w.s w.e.B (w.s.Merged.length+2) w.e.A then 12 else 0
def Ho (w:Wk):Wk:={ w with s:={ w.s with Merged:=w.s.Merged++[⟨w.e.A,w.e.B⟩] } }
theorem Z3K (o0 o1:AObj) (w:Wk) (hw:WkS w):∀ k at',chN w.s k at'=true→
 ∃ fr',Zg rE [0,3] c49L0b [(0,.ptr 2 0 0 1),(3,I at')] (wH o0 o1 w)=some (if WN w.s w.e.B (k+1) at'=true then .ret else .exit 0,fr',wH o0 o1 w)∧
  (WN w.s w.e.B (k+1) at'=true→get fr' 2=.int .i64 12)∧(WN w.s w.e.B (k+1) at'=false→get fr' 0=.ptr 2 0 0 1∧get fr' 2=.bot):=by
 intro k;induction k with
 | zero=>
  intro at' hc;have h1:decide (at' ≥ 0)=false:=by simpa [chN] using hc
  have h2:WN w.s w.e.B (0+1) at'=false:=by rw [WN,h1];rfl
  rw [h2];refine ⟨_,Q7 rfl (by simp only [go_sem,qy,qq,reduceIte,c49L0b,h1];rfl) (by simp),fun h=>(by cases h),fun _=>⟨?_,?_⟩⟩<;>simp only [go_sem,qy]
 | succ k ih=>
  intro at' hc;rw [WN];cases h1:decide (at' ≥ 0) with
  | false=>
   rw [cond_false];refine ⟨_,Q7 rfl (by simp only [go_sem,qy,qq,reduceIte,c49L0b,h1];rfl) (by simp),fun h=>(by cases h),fun _=>⟨?_,?_⟩⟩<;>simp only [go_sem,qy]
  | true=>
   rw [cond_true];cases h2:at'==w.e.B with
   | true=>
    rw [cond_true];refine ⟨_,Q7 rfl (by simp only [go_sem,qy,qq,reduceIte,c49L0b,h1,h2];rfl) (by simp),fun _=>?_,fun h=>(by cases h)⟩
    simp only [go_sem,qy]
   | false=>
    rw [cond_false];have hc':chN w.s k (XJ w.s at')=true:=by
     rw [chN,h1,cond_true] at hc;exact hc
    have ht:=NJ w.s hw.s at';obtain ⟨fr',h3,h4⟩:=ih (XJ w.s at') hc';refine ⟨fr',?_,h4⟩;rw [←h3];exact (Yt rfl (by simp only [go_sem,qy,qq,qv,qk,reduceIte,c49L0b,h1,h2,ht];rfl)).trans (by simp only [go_sem,qy])
theorem Z3L (s:Sta) (hp:WK s=true) (a:Int):chN s (s.Merged.length+1) a=true:=by
 simp only [WK,ZO2] at hp;obtain ⟨_,_,h3⟩:=hp;rw [ZO8] at h3;cases hf:s.Merged.find? (fun p=>p.b==a) with
 | some p=>
  have h1:=List.find?_some hf;have h2:=h3 p (ZQB hf);have:p.b=a:=by simpa using h1
  rw [←this];exact h2
 | none=>
  have ht:XJ s a=-1:=by unfold XJ;rw [hf]
  rw [chN];cases decide (a ≥ 0) with
  | false=>rfl
  | true=>
   rw [cond_true,ht];cases s.Merged.length<;>rfl
theorem Z3M (o0 o1:AObj) (w:Wk) (hw:WkS w) (hp:WK w.s=true):∃ t,fnV rE 49 [.ptr 2 0 0 1] (wH o0 o1 w)=some (I (Hn w),wH o0 o1 (bif Hn w==0 then Ho w else w)++t):=by
 have ht:=NJ w.s hw.s w.e.B;have hcs:Z4 (w.s.Merged.map Pair.enc)=true:=Zw (fun t=>rfl) _
 have ha:=fun (h:Hp) (aid:Nat)=>Vt (h:=h) (aid:=aid) (sz:=2) (bytes:=16) (es:=w.s.Merged.map Pair.enc) (ys:=[.agg [I w.e.A,I w.e.B]]) (bw:=false) (bw2:=false) (ex:=false) rfl (by omega) (by omega) (by have:=hw.s.merged;simp;omega) (by simp only [XA,hcs];rfl)
 have z12:((12:Int)==0)=false:=rfl;have z11:((11:Int)==0)=false:=rfl;have z0:((0:Int)==0)=true:=rfl;obtain ⟨fr',h1,h2,h3⟩:=Z3K o0 o1 w hw (w.s.Merged.length+1) w.e.A (Z3L w.s hp w.e.A);rw [Q6 (f:=49) rfl rfl];unfold Hn;refine ⟨[],?_⟩;cases c1:decide (XJ w.s w.e.B ≥ 0) with
 | true=>simp only [go_sem,qy,qq,qv,qk,reduceIte,c49,ht,c1,z11,ZOc]
 | false=>
 have e:w.s.Merged.length+2=w.s.Merged.length+1+1:=rfl;rw [e];cases c2:WN w.s w.e.B (w.s.Merged.length+1+1) w.e.A with
 | true=>
  rw [c2,if_pos rfl] at h1;simp only [go_sem,qy,qq,qv,qk,reduceIte,c49,c49L0,ht,c1,h1,h2 c2,z12,ZOc]
 | false=>
  rw [c2] at h1;obtain ⟨q0,q2⟩:=h3 c2;simp only [go_sem,qy,qq,qv,qk,reduceIte,c49,c49L0,ht,c1,h1,q0,q2,z0,ZOd,Fu,wrB,appW,ha,ZM,ZH,Ho,ZOk,wH,wkC,Pair.enc,ZOc]
end Go.AM
namespace Go.AM
open Go
def UF (e:Event) (a:NL Str) (d:Door):Door:={ d with Ended:=e.Day,Why:=e.Kind,After:=a }
def UG (e:Event) (a:NL Str) (u:Unit'):Unit':=
 match a.l with
 | x::_=>{ u with Door:=x }
 | []=>{ u with Ended:=e.Day,Why:=e.Kind }
theorem Z3N (w:Wk) (a:NL Str) (l:List Door) (k:Nat) (x:Door) (hx:l[k]? = some x) (hle:l.length≤1000000):pfn rE 95 [.isl false false 16 (l.map Door.enc),I k,.clo (.func 165) [] [.iptr true [.iptr true (wkC w)],.iptr false [.isl false a.ex 1 (a.l.map encS)]]]=some (.isl false false 16 ((ZK l k (UF w.e a)).map Door.enc)):=by
 have hk:=Z7 hx;have hg:=Z6 (f:=Door.enc) hx;have hs:∀ v,((l.map Door.enc).set k v)[k]? = some v:=fun v=>by simp [hk]
 rw [YA hx,ZOw];refine Xk (sz:=16) (f:=164) rfl rfl rfl _ _ _ (.tup []) false k (by simpa using hk) (Xj (fun _=>rfl) _) (by simpa using hle) ?_ (by simp) ?_
 ·rw [Q6 (f:=165) rfl rfl];simp only [go_sem,qy,qq,qk,c165,beq_self_eq_true,hg,hs,List.set_set,ZPn,ZO3,Door.enc,NL.enc,UF]
 ·rw [←ZOw];exact Zw (fun t=>rfl) _
theorem Z3O (w:Wk) (a:NL Str) (l:List Unit') (k:Nat) (x:Unit') (hx:l[k]? = some x) (hle:l.length≤1000000):pfn rE 106 [.isl false false 6 (l.map Unit'.enc),I k,.clo (.func 166) [] [.iptr false [.isl false a.ex 1 (a.l.map encS)],.iptr true [.iptr true (wkC w)]]]=some (.isl false false 6 ((ZK l k (UG w.e a)).map Unit'.enc)):=by
 have hk:=Z7 hx;have hg:=Z6 (f:=Unit'.enc) hx;have hs:∀ v,((l.map Unit'.enc).set k v)[k]? = some v:=fun v=>by simp [hk]
 rw [YA hx,ZOw];refine Xk (sz:=6) (f:=172) rfl rfl rfl _ _ _ (.tup []) false k (by simpa using hk) (Xj (fun _=>rfl) _) (by simpa using hle) ?_ (by simp) ?_
 ·rw [Q6 (f:=166) rfl rfl];unfold UG;cases ha:a.l with
  | nil=>
   have d:decide (((0:Nat):Int) > 0)=false:=rfl;simp only [go_sem,qy,qq,qv,qk,reduceIte,c166,beq_self_eq_true,hg,hs,List.set_set,ZPn,ZO3,Unit'.enc,ZOy,ZOp,d]
  | cons y r=>
   have d:decide (((r.length+1:Nat):Int) > 0)=true:=decide_eq_true (by omega)
   have hix:ixG (.str y::r.map encS) 0=some (.str y):=rfl;simp only [go_sem,qy,qq,qv,qk,reduceIte,c166,beq_self_eq_true,hg,ZO3,Unit'.enc,ZOb,ZOg,ZO3,d,hix,encS]
 ·rw [←ZOw];exact Zw (fun t=>rfl) _
def Z3P (id:Str) (u:Unit'):Bool:=Z3 u.Door id&&!(u.Ended != -1)
def XO (e:Event) (id:Str) (a:NL Str) (u:Unit'):Unit':=bif Z3P id u then UG e a u else u
def UH (e:Event) (id:Str) (a:NL Str) (l:List Unit'):List Unit':=l.map (XO e id a)
def Ym (w:Wk) (l:List Door):Wk:={ w with s:={ w.s with Doors:=l } }
def Qx (w:Wk) (l:List Unit'):Wk:={ w with s:={ w.s with Units:=l } }
def Qf (w:Wk) (k:Nat) (a:NL Str):Wk:=
 match w.s.Doors[k]? with
 | some x=>Qx (Ym w (ZK w.s.Doors k (UF w.e a))) (UH w.e x.Id a w.s.Units)
 | none=>w
def Y3 {α:Type} (f:α→α) (l:List α) (i:Nat):List α:=(l.take i).map f++l.drop i
theorem Z3Q {α:Type} (f:α→α) (l:List α):Y3 f l 0=l:=by simp [Y3]
theorem Z3R {α:Type} (f:α→α) (l:List α):Y3 f l l.length=l.map f:=by simp [Y3]
theorem Z3S {α:Type} (f:α→α) (l:List α) (i:Nat):(Y3 f l i).length=l.length:=by
 unfold Y3;simp;omega
theorem UI {α:Type} (f:α→α) {l:List α} {i:Nat} {x:α} (h:l[i]? = some x):(Y3 f l i)[i]? = some x:=by
 have hi:=Z7 h;unfold Y3;rw [ZOA (by simp;omega)]
 have:i - (List.map f (List.take i l)).length=0:=by simp;omega
 rw [this,ZPt];simpa using h
theorem Fx {α:Type} (f:α→α) {l:List α} {i:Nat} {x:α} (h:l[i]? = some x):Y3 f l (i+1)=(Y3 f l i).set i (f x):=by
 have hi:=Z7 h;have hx:l[i]=x:=by rw [ZO6 hi] at h;exact Option.some.inj h
 unfold Y3;rw [ZPu hi,hx,ZOk,ZOo,ZPS _ _ (by simp;omega)]
 have:i - (List.map f (List.take i l)).length=0:=by simp;omega
 rw [this,ZPo hi];rfl
theorem Fy {α:Type} (f:α→α) {l:List α} {i:Nat} {x:α} (h:l[i]? = some x) (hf:f x=x):Y3 f l (i+1)=Y3 f l i:=by
 rw [Fx f h,hf];have h2:=UI f h;have hi:=Z7 h2;rw [ZO6 hi] at h2;have:=Option.some.inj h2;rw [←this,List.set_getElem_self]
theorem Z3T (o0 o1:AObj) (h0:∀ n,Zj n o0=true) (h1:∀ n,Zj n o1=true) (id:Str) (a:NL Str) (w:Wk) (hu:w.s.Units.length≤1000) (t:Hp)
 (ht:(∃ x,t=[x]∧∀ n,3≤n→Zj n x=true)∨∃ x y,t=[x,y]∧(∀ n,3≤n→Zj n x=true)∧∀ n,3≤n→Zj n y=true):
 ∃ fr',Zg rE [3,5,6,34,35,36] c97L0b [(3,.ptr (3+t.length) 0 0 1),(5,.iptr false [.isl false a.ex 1 (a.l.map encS)]),(6,.str id),(34,.isl false false 6 (w.s.Units.map Unit'.enc)),(35,I w.s.Units.length),(36,.int .i64 0)] (wH o0 o1 w++t++[.row 1 [.ptr 2 0 0 1]]) =
  some (.exit 0,fr',wH o0 o1 (Qx w (UH w.e id a w.s.Units))++t++[.row 1 [.ptr 2 0 0 1]]):=by
 have L:=Y8 (E:=rE) (live:=[3,5,6,34,35,36]) (b:=c97L0b) w.s.Units.length
  (fun i=>[(3,.ptr (3+t.length) 0 0 1),(5,.iptr false [.isl false a.ex 1 (a.l.map encS)]),(6,.str id),(34,.isl false false 6 (w.s.Units.map Unit'.enc)),(35,I w.s.Units.length),(36,I i)])
  (fun i=>wH o0 o1 (Qx w (Y3 (XO w.e id a) w.s.Units i))++t++[.row 1 [.ptr 2 0 0 1]]) (fun i=>rfl)
  (fun i hi=>by
   obtain ⟨x,hx⟩:∃ x,w.s.Units[i]? = some x:=⟨_,ZO6 hi⟩;have hg:=Z6 (f:=Unit'.enc) hx;have hi':=Zh hi;have hw:=Zx (n:=i) (by omega)
   have hch:=Z3O (Qx w (Y3 (XO w.e id a) w.s.Units i)) a (Y3 (XO w.e id a) w.s.Units i) i x (UI _ hx) (by rw [Z3S];omega)
   have hf:XO w.e id a x=bif Z3 x.Door id&&!(x.Ended != -1) then UG w.e a x else x:=rfl;have hm:Z3 x.Door id=true→(x.Ended != -1)=false→ZK (Y3 (XO w.e id a) w.s.Units i) i (UG w.e a)=Y3 (XO w.e id a) w.s.Units (i+1):=fun c1 c2=>by
    rw [Fx _ hx,YA (UI _ hx),hf,c1,c2];rfl
   rw [YA (UI _ hx)] at hch;refine ⟨[(3,.ptr (3+t.length) 0 0 1),(5,.iptr false [.isl false a.ex 1 (a.l.map encS)]),(6,.str id),(34,.isl false false 6 (w.s.Units.map Unit'.enc)),(35,I w.s.Units.length),(36,I (i+1:Nat))],?_,rfl⟩;cases c1:Z3 x.Door id with
   | false=>
    have hs:=Fy (XO w.e id a) hx (by rw [hf,c1];rfl)
    rw [hs];rcases ht with ⟨x0,rfl,b0⟩ | ⟨x0,y0,rfl,b0,b1⟩
    ·simp only [go_sem,qy,qq,qv,qk,reduceIte,c97L0b,wH,Qx,hg,hi',hw,Unit'.enc,c1,h0,h1,b0]
    ·simp only [go_sem,qy,qq,qv,qk,reduceIte,c97L0b,wH,Qx,hg,hi',hw,Unit'.enc,c1,h0,h1,b0,b1]
   | true=>
   cases c2:x.Ended != -1 with
   | true=>
    have hs:=Fy (XO w.e id a) hx (by rw [hf,c1,c2];rfl)
    rw [hs];rcases ht with ⟨x0,rfl,b0⟩ | ⟨x0,y0,rfl,b0,b1⟩
    ·simp only [go_sem,qy,qq,qv,qk,reduceIte,c97L0b,wH,Qx,hg,hi',hw,Unit'.enc,c1,c2,h0,h1,b0]
    ·simp only [go_sem,qy,qq,qv,qk,reduceIte,c97L0b,wH,Qx,hg,hi',hw,Unit'.enc,c1,c2,h0,h1,b0,b1]
   | false=>
    have hm':=hm c1 c2;rw [YA (UI _ hx)] at hm';have e0:(Qx w (Y3 (XO w.e id a) w.s.Units i)).e=w.e:=rfl;rw [e0,hm'] at hch;simp only [Qx] at hch;rcases ht with ⟨x0,rfl,b0⟩ | ⟨x0,y0,rfl,b0,b1⟩
    ·simp only [go_sem,qy,qq,qv,qk,reduceIte,c97L0b,wH,Qx,hg,hi',hw,Unit'.enc,c1,c2,h0,h1,b0,hch]
    ·simp only [go_sem,qy,qq,qv,qk,reduceIte,c97L0b,wH,Qx,hg,hi',hw,Unit'.enc,c1,c2,h0,h1,b0,b1,hch])
  (e:=.exit 0) (fr:=[(3,.ptr (3+t.length) 0 0 1),(5,.iptr false [.isl false a.ex 1 (a.l.map encS)]),(6,.str id),(34,.isl false false 6 (w.s.Units.map Unit'.enc)),(35,I w.s.Units.length),(36,I w.s.Units.length)]) (h:=wH o0 o1 (Qx w (Y3 (XO w.e id a) w.s.Units w.s.Units.length))++t++[.row 1 [.ptr 2 0 0 1]]) (by
   rcases ht with ⟨x0,rfl,b0⟩ | ⟨x0,y0,rfl,b0,b1⟩
   ·simp only [go_sem,qy,qq,reduceIte,c97L0b,ZG,wH,Qx,h0,h1]
   ·simp only [go_sem,qy,qq,reduceIte,c97L0b,ZG,wH,Qx,h0,h1]) (by simp)
 simp only [Z3Q,Z3R] at L;exact ⟨_,L⟩
theorem Hq (o0 o1:AObj) (h0:∀ n,Zj n o0=true) (h1:∀ n,Zj n o1=true) (a:NL Str) (w:Wk) (hu:w.s.Units.length≤1000) (hdl:w.s.Doors.length≤1000000) (k:Nat) (x:Door) (hx:w.s.Doors[k]? = some x) (t:Hp)
 (ht:(∃ x,t=[x]∧∀ n,3≤n→Zj n x=true)∨∃ x y,t=[x,y]∧(∀ n,3≤n→Zj n x=true)∧∀ n,3≤n→Zj n y=true):
 fnV rE 97 [.ptr 2 0 0 1,I k,.isl false a.ex 1 (a.l.map encS)] (wH o0 o1 w++t)=some (.tup [],wH o0 o1 (Qf w k a)++t++[.row 1 [.ptr 2 0 0 1]]):=by
 have hg:=Z6 (f:=Door.enc) hx;have hch:=Z3N w a w.s.Doors k x hx hdl;obtain ⟨fr',hL⟩:=Z3T o0 o1 h0 h1 x.Id a (Ym w (ZK w.s.Doors k (UF w.e a))) hu t ht;have e:Qf w k a=Qx (Ym w (ZK w.s.Doors k (UF w.e a))) (UH w.e x.Id a w.s.Units):=by unfold Qf;rw [hx]
 rw [e,Q6 (f:=97) rfl rfl];rcases ht with ⟨x0,rfl,b0⟩ | ⟨x0,y0,rfl,b0,b1⟩
 ·simp only [wH,Ym,Qx,ZOa,ZOl,ZOg,ZOp,Nat.reduceAdd] at hL ⊢;simp only [go_sem,qy,qq,qv,qk,c97,c97L0,hg,hch,Door.enc,NL.enc,h0,h1,b0,hL]
 ·simp only [wH,Ym,Qx,ZOa,ZOl,ZOg,ZOp,Nat.reduceAdd] at hL ⊢;simp only [go_sem,qy,qq,qv,qk,c97,c97L0,hg,hch,Door.enc,NL.enc,h0,h1,b0,b1,hL]
end Go.AM
namespace Go.AM
open Go
theorem Fz (o0 o1:AObj) (w:Wk) (hd:w.s.Doors.length≤100000) (d:Door) (t:Hp) (ht:t=[]∨(∃ x,t=[x])∨(∃ x y,t=[x,y])∨∃ x y z,t=[x,y,z]):
 ∃ q,fnV rE 90 [.ptr 2 0 0 1,Zo d] (wH o0 o1 w++t)=some (.tup [],wH o0 o1 (Qw w d)++t++[q])∧∀ n,Zj n q=true:=by
 have hcs:Z4 (w.s.Doors.map Door.enc)=true:=Zw (fun t=>rfl) _
 have ha:=fun (h:Hp) (aid:Nat)=>Vt (h:=h) (aid:=aid) (sz:=16) (bytes:=184) (es:=w.s.Doors.map Door.enc) (ys:=[Zo (Xl w d)]) (bw:=false) (bw2:=false) (ex:=false) rfl (by omega) (by omega) (by simp;omega) (by simp only [XA,hcs];rfl)
 refine ⟨.row 16 [Zo (Xl w d)],?_,fun n=>rfl⟩
 unfold Zo Xl at ha ⊢;simp only at ha ⊢;rw [Q6 (f:=90) rfl rfl];rcases ht with rfl | ⟨x,rfl⟩ | ⟨x,y,rfl⟩ | ⟨x,y,z,rfl⟩<;>
  simp only [go_sem,qy,qq,qv,qk,c90,Ft,wrB,appW,ha,ZM,ZH,Qw,Xl,ZOk,wH,wkC,Door.enc,NL.enc,ZOc]
def Hr (d:Door) (x:Ent):Door:=⟨x.Id,d.Building,d.Street,0,x.Number,x.Point,0,0,⟨false,[]⟩,0,0,emp⟩
def Y5 (w:Wk) (d:Door) (l:List Ent):Wk:={ w with s:={ w.s with Doors:=w.s.Doors++l.map (fun x=>Xl w (Hr d x)) } }
theorem Z3U (w:Wk) (d:Door) {l:List Ent} {i:Nat} {x:Ent} (h:l[i]? = some x):Y5 w d (l.take (i+1))=Qw (Y5 w d (l.take i)) (Hr d x):=by
 unfold Y5 Qw;rw [YW _ h,ZOo];rfl
def WO (w:Wk) (l:List Ent):Bool:=Zu (fun _ x=>!twB w x.Id) 0 l
theorem Z3V (o0 o1:AObj) (h0:∀ n,Zj n o0=true) (h1:∀ n,Zj n o1=true) (w:Wk) (hw:WkS w):
 ∃ fr' h',Zg rE [0,3,14,15,16] c45L0b [(0,.ptr 2 0 0 1),(3,.sl 3 0 0 0 false),(14,.isl false w.e.Lst.ex 7 (w.e.Lst.l.map Ent.enc)),(15,I w.e.Lst.l.length),(16,.int .i64 0)] (wH o0 o1 w++[.row 1 []]) =
  some (if WO w w.e.Lst.l=true then .exit 0 else .ret,fr',h')∧
  (WO w w.e.Lst.l=true→(get fr' 0=.ptr 2 0 0 1∧get fr' 2=.bot∧get fr' 3=.sl 3 w.e.Lst.l.length 0 w.e.Lst.l.length false)∧h'=wH o0 o1 w++[.row 1 ((w.e.Lst.l.map (·.Id)).map encS)])∧
  (WO w w.e.Lst.l=false→get fr' 2=.int .i64 8∧∃ K,h'=wH o0 o1 w++[.row 1 K]):=by
 have hbS:∀ n (K:List Str),Zd n (K.map encS)=true:=fun n K=>ZN _ (Zw (fun t=>rfl) K)
 have hl:=hw.e.lst;have L:=Jk (E:=rE) (live:=[0,3,14,15,16]) (b:=c45L0b) w.e.Lst.l (fun _ x=>!twB w x.Id)
  (fun i=>[(0,.ptr 2 0 0 1),(3,.sl 3 i 0 i false),(14,.isl false w.e.Lst.ex 7 (w.e.Lst.l.map Ent.enc)),(15,I w.e.Lst.l.length),(16,I i)])
  (fun i=>wH o0 o1 w++[.row 1 (((w.e.Lst.l.take i).map (·.Id)).map encS)]) 0
  (fun fr' h'=>(get fr' 0=.ptr 2 0 0 1∧get fr' 2=.bot∧get fr' 3=.sl 3 w.e.Lst.l.length 0 w.e.Lst.l.length false)∧h'=wH o0 o1 w++[.row 1 ((w.e.Lst.l.map (·.Id)).map encS)])
  (fun fr' h'=>get fr' 2=.int .i64 8∧∃ K,h'=wH o0 o1 w++[.row 1 K])
  (fun i=>rfl)
  (fun i x hx hp=>by
   have hi:=Z7 hx;have hg:=Z6 (f:=Ent.enc) hx;have hi':=Zh hi;have hwr:=Zx (n:=i) (by omega)
   have ht:=YW (fun x:Ent=>x.Id) hx
   have hn:((w.e.Lst.l.take i).map (·.Id)).length=i:=by rw [ZO3,take_len hx]
   have e1:((w.e.Lst.l.take (i+1)).map (·.Id)).map encS=((w.e.Lst.l.take i).map (·.Id)).map encS++[.str x.Id]:=by
    rw [ht,ZOk];rfl
   have htw:=Wj w hw x.Id;have hp':twB w x.Id=false:=by simpa using hp
   rw [hp'] at htw;rw [e1];generalize (w.e.Lst.l.take i).map (·.Id)=KS at hn ⊢;have ha:=fun p0 p1 p2 q=>XC (h:=[p0,p1,p2,.row 1 (KS.map encS),q]) (fz:=false) (b:=3) (g:=i) (sz:=1) (es:=KS.map encS) (bw:=false) (ex:=false) (ys:=[.str x.Id]) (bytes:=16) (by simp [rowAt,hn]) rfl (by simp [Qq];rfl) (by omega) (by omega) (by simp;omega)
   refine ⟨[(0,.ptr 2 0 0 1),(2,.bot),(3,.sl 3 (i+1) 0 (i+1) false),(14,.isl false w.e.Lst.ex 7 (w.e.Lst.l.map Ent.enc)),(15,I w.e.Lst.l.length),(16,I (i+1:Nat))],?_,rfl⟩;simp only [go_sem,qy,qq,qv,qk,reduceIte,c45L0b,wH,hg,hi',hwr,Ent.enc,htw,ha,beq_self_eq_true,hbS,h0,h1])
  (fun i x hx hp=>by
   have hi:=Z7 hx;have hg:=Z6 (f:=Ent.enc) hx;have hi':=Zh hi;have htw:=Wj w hw x.Id;have hp':twB w x.Id=true:=by simpa using hp
   rw [hp'] at htw;refine ⟨_,_,by simp only [go_sem,qy,qq,qv,qk,reduceIte,c45L0b,wH,hg,hi',Ent.enc,htw,beq_self_eq_true,hbS,h0,h1];rfl,?_,_,rfl⟩
   simp only [go_sem,qy])
  ⟨_,_,by simp only [go_sem,qy,qq,qv,reduceIte,c45L0b,wH,ZG,ZOE,hbS,h0,h1];rfl,⟨by simp only [go_sem,qy],by simp only [go_sem,qy],by simp only [go_sem,qy]⟩,rfl⟩
 simp only [List.take_zero,ZOy] at L;exact L
theorem Z3W (o0 o1:AObj) (h0:∀ n,Zj n o0=true) (h1:∀ n,Zj n o1=true) (w:Wk) (hd:w.s.Doors.length≤1000) (hl:w.e.Lst.l.length≤100) (k:Int) (n:Nat) (K:List Str) (d:Door):
 ∃ fr',Zg rE [0,3,6,7,78,79,80] c45L1b [(0,.ptr 2 0 0 1),(3,.sl 3 n 0 n false),(6,I k),(7,.ptr 4 0 0 1),(78,.isl false w.e.Lst.ex 7 (w.e.Lst.l.map Ent.enc)),(79,I w.e.Lst.l.length),(80,.int .i64 0)] (wH o0 o1 w++[.row 1 (K.map encS),.row 16 [Zo d]]) =
  some (.exit 3,fr',wH o0 o1 (Y5 w d w.e.Lst.l)++[.row 1 (K.map encS),.row 16 [Zo d]])∧get fr' 0=.ptr 2 0 0 1∧get fr' 3=.sl 3 n 0 n false∧get fr' 6=I k:=by
 have hbS:∀ n (K:List Str),Zd n (K.map encS)=true:=fun n K=>ZN _ (Zw (fun t=>rfl) K)
 have L:=Y8 (E:=rE) (live:=[0,3,6,7,78,79,80]) (b:=c45L1b) w.e.Lst.l.length
  (fun i=>[(0,.ptr 2 0 0 1),(3,.sl 3 n 0 n false),(6,I k),(7,.ptr 4 0 0 1),(78,.isl false w.e.Lst.ex 7 (w.e.Lst.l.map Ent.enc)),(79,I w.e.Lst.l.length),(80,I i)])
  (fun i=>wH o0 o1 (Y5 w d (w.e.Lst.l.take i))++[.row 1 (K.map encS),.row 16 [Zo d]]) (fun i=>rfl)
  (fun i hi=>by
   obtain ⟨x,hx⟩:∃ x,w.e.Lst.l[i]? = some x:=⟨_,ZO6 hi⟩;have hg:=Z6 (f:=Ent.enc) hx;have hi':=Zh hi;have hwr:=Zx (n:=i) (by omega)
   obtain ⟨q,ho,hq⟩:=Fz o0 o1 (Y5 w d (w.e.Lst.l.take i)) (by simp [Y5];omega) (Hr d x) [.row 1 (K.map encS),.row 16 [Zo d],.row 7 [x.enc]] (Or.inr (Or.inr (Or.inr ⟨_,_,_,rfl⟩)))
   rw [Z3U w d hx];refine ⟨[(0,.ptr 2 0 0 1),(3,.sl 3 n 0 n false),(6,I k),(7,.ptr 4 0 0 1),(78,.isl false w.e.Lst.ex 7 (w.e.Lst.l.map Ent.enc)),(79,I w.e.Lst.l.length),(80,I (i+1:Nat))],?_,rfl⟩;generalize Y5 w d (w.e.Lst.l.take i)=W at ho ⊢;unfold Hr Zo at ho ⊢;simp only [wH,ZOa,ZOl,ZOy,Ent.enc] at ho ⊢;simp only [go_sem,qy,qq,qv,qk,reduceIte,c45L1b,hg,hi',hwr,Ent.enc,ho,beq_self_eq_true,hbS,h0,h1])
  (e:=.exit 3) (fr:=[(0,.ptr 2 0 0 1),(3,.sl 3 n 0 n false),(6,I k),(7,.ptr 4 0 0 1),(78,.isl false w.e.Lst.ex 7 (w.e.Lst.l.map Ent.enc)),(79,I w.e.Lst.l.length),(80,I w.e.Lst.l.length)]) (h:=wH o0 o1 (Y5 w d (w.e.Lst.l.take w.e.Lst.l.length))++[.row 1 (K.map encS),.row 16 [Zo d]])
  (by simp only [go_sem,qy,qq,qv,reduceIte,c45L1b,ZG,wH,hbS,h0,h1,Zo]) (by simp)
 have e0:Y5 w d (w.e.Lst.l.take 0)=w:=by simp [Y5]
 rw [e0,ZOE] at L;exact ⟨_,L,by simp only [go_sem,qy],by simp only [go_sem,qy],by simp only [go_sem,qy]⟩
def Vu (s:Sta) (k:Int):Str:=match s.Doors[k.toNat]? with | some d=>d.Veil | none=>emp
def Ka (w:Wk):Int:=
 bif !WO w w.e.Lst.l then 8 else bif decide (Zn w.s w.e.Id < 0) then 10
 else bif QN w.s (Zn w.s w.e.Id) != -1||!Z3 (Vu w.s (Zn w.s w.e.Id)) emp then 11 else 0
def Kb (w:Wk):Wk:=
 match w.s.Doors[(Zn w.s w.e.Id).toNat]? with
 | some d=>Qf (Y5 w d w.e.Lst.l) (Zn w.s w.e.Id).toNat ⟨false,w.e.Lst.l.map (·.Id)⟩
 | none=>w
theorem Z3X (o0 o1:AObj) (h0:∀ n,Zj n o0=true) (h1:∀ n,Zj n o1=true) (w:Wk) (hw:WkS w):∃ t,fnV rE 45 [.ptr 2 0 0 1] (wH o0 o1 w)=some (I (Ka w),wH o0 o1 (bif Ka w==0 then Kb w else w)++t):=by
 have hbS:∀ n (K:List Str),Zd n (K.map encS)=true:=fun n K=>ZN _ (Zw (fun t=>rfl) K)
 have hcS:∀ K:List Str,Z4 (K.map encS)=true:=fun K=>Zw (fun t=>rfl) K
 have hf:=find_ok w.s hw.s w.e.Id;have z8:((8:Int)==0)=false:=rfl;have z10:((10:Int)==0)=false:=rfl;have z11:((11:Int)==0)=false:=rfl;have z0:((0:Int)==0)=true:=rfl;obtain ⟨f0,g0,l0,a0,b0⟩:=Z3V o0 o1 h0 h1 w hw;rw [Q6 (f:=45) rfl rfl];unfold Ka;cases c0:WO w w.e.Lst.l with
 | false=>
  rw [c0] at l0;obtain ⟨q2,K,rfl⟩:=b0 c0;simp only [wH,ZOa,ZOl,ZOd,if_false] at l0;refine ⟨[.row 1 K],?_⟩;simp only [go_sem,qy,qq,qv,c45,c45L0,wH,l0,q2,z8]
 | true=>
 rw [c0,if_pos rfl] at l0;obtain ⟨⟨q0,q2,q3⟩,rfl⟩:=a0 c0;simp only [wH,ZOa,ZOl] at l0;cases c1:decide (Zn w.s w.e.Id < 0) with
 | true=>
  refine ⟨[.row 1 ((w.e.Lst.l.map (·.Id)).map encS)],?_⟩;simp only [go_sem,qy,qq,qv,qk,reduceIte,c45,c45L0,wH,l0,q0,q2,q3,hbS,h0,h1,hf,c1,z10]
 | false=>
 obtain ⟨j,y,hj,hy⟩:=QC c1;have hj':Zn w.s w.e.Id=(j:Int):=hj;have gy:=Z6 (f:=Door.enc) hy;have hdE:QN w.s (j:Int)=y.Ended:=by simp [QN,hy]
 have hdV:Vu w.s (j:Int)=y.Veil:=by simp [Vu,hy]
 have hn:((j:Int)).toNat=j:=rfl;rw [hj'] at hf c1 ⊢;rw [hdE,hdV];cases c2:y.Ended != -1 with
 | true=>
  refine ⟨[.row 1 ((w.e.Lst.l.map (·.Id)).map encS)],?_⟩;simp only [go_sem,qy,qq,qv,qk,reduceIte,c45,c45L0,wH,l0,q0,q2,q3,hbS,h0,h1,hf,c1,gy,Door.enc,NL.enc,c2,z11]
 | false=>
 cases c5003:Z3 y.Veil emp with
 | false=>
  refine ⟨[.row 1 ((w.e.Lst.l.map (·.Id)).map encS)],?_⟩;simp only [go_sem,qy,qq,qv,qk,reduceIte,c45,c45L0,wH,l0,q0,q2,q3,hbS,h0,h1,hf,c1,gy,Door.enc,NL.enc,c2,c5003,z11]
 | true=>
  obtain ⟨f1,l1,p0,p3,p6⟩:=Z3W o0 o1 h0 h1 w hw.s.doors hw.e.lst j w.e.Lst.l.length (w.e.Lst.l.map (·.Id)) y;have he:=Hq o0 o1 h0 h1 ⟨false,w.e.Lst.l.map (·.Id)⟩ (Y5 w y w.e.Lst.l) hw.s.units (by have:=hw.s.doors;have:=hw.e.lst;simp [Y5];omega) j y (by
   have:=Z7 hy;unfold Y5;rw [ZOz this,hy]) [.gone,.row 16 [Zo y]] (Or.inr ⟨_,_,rfl,fun n _=>rfl,fun n _=>rfl⟩)
  have hs:Kb w=Qf (Y5 w y w.e.Lst.l) j ⟨false,w.e.Lst.l.map (·.Id)⟩:=by unfold Kb;rw [hj',hn,hy]
  rw [hs];generalize Qf (Y5 w y w.e.Lst.l) j ⟨false,w.e.Lst.l.map (·.Id)⟩=W2 at he ⊢;unfold Zo at l1 he;simp only [wH,ZOa,ZOl] at l1 he;refine ⟨[.gone,.row 16 [Zo y]],?_⟩;have hz:List.take w.e.Lst.l.length ((w.e.Lst.l.map (·.Id)).map encS)=(w.e.Lst.l.map (·.Id)).map encS:=ZOs (by simp)
  simp only [go_sem,qy,qq,qv,qk,reduceIte,c45,c45L0,c45L1,wH,l0,q0,q2,q3,hbS,hcS,h0,h1,hf,c1,gy,Door.enc,NL.enc,c2,c5003,z0,l1,p0,p3,p6,he,beq_self_eq_true,hz,Zo]
end Go.AM
namespace Go.AM
open Go
theorem FA (w:Wk) (k:Nat) (a:NL Str):(Qf w k a).e=w.e:=by unfold Qf;split<;>rfl
theorem FB (w:Wk) (k:Nat) (a:NL Str):(Qf w k a).s.Doors.length=w.s.Doors.length:=by
 unfold Qf;split
 ·simp [Qx,Ym,Xm]
 ·rfl
theorem FC (w:Wk) (k:Nat) (a:NL Str):(Qf w k a).s.Units.length=w.s.Units.length:=by
 unfold Qf;split
 ·simp [Qx,Ym,UH]
 ·rfl
def Yg (w:Wk) (l:List Int) (a:NL Str):Wk:=l.foldl (fun w k=>Qf w k.toNat a) w
theorem UJ (w:Wk) (k:Int) (l:List Int) (a:NL Str):Yg w (k::l) a=Yg (Qf w k.toNat a) l a:=rfl
theorem Z3Y (w:Wk) {l:List Int} {i:Nat} {x:Int} (h:l[i]? = some x) (a:NL Str):Yg w (l.take (i+1)) a=Qf (Yg w (l.take i) a) x.toNat a:=by
 have hi:=Z7 h;have hx:l[i]=x:=by rw [ZO6 hi] at h;exact Option.some.inj h
 unfold Yg;rw [ZPu hi,hx,ZQa];rfl
theorem Z3Z (l:List Int) (a:NL Str):∀ w:Wk,(Yg w l a).e=w.e:=by
 induction l with
 | nil=>intro w;rfl
 | cons x r ih=>intro w;rw [UJ,ih,FA]
theorem Z40 (l:List Int) (a:NL Str):∀ w:Wk,(Yg w l a).s.Doors.length=w.s.Doors.length:=by
 induction l with
 | nil=>intro w;rfl
 | cons x r ih=>intro w;rw [UJ,ih,FB]
theorem Z41 (l:List Int) (a:NL Str):∀ w:Wk,(Yg w l a).s.Units.length=w.s.Units.length:=by
 induction l with
 | nil=>intro w;rfl
 | cons x r ih=>intro w;rw [UJ,ih,FC]
theorem Z42 (l:List Int) (ex:Bool) (v:Int) (hl:l.length≤1000000):pfn rE 98 [.isl true ex 1 (l.map I),I v]=some (.bool (l.any (fun x=>v==x))):=by
 have h:=Nz (f:=167) (enc:=I) (p:=fun x=>v==x) (v:=I v) rfl rfl l (by omega) (fun x _=>rfl) rfl (fun x _=>rfl) true ex
 rw [Z5 (f:=98) rfl rfl,←Vg];unfold WG;simp only [go_sem,qy,qq,qk,reduceIte,c98,h]
def Zf (w:Wk):List Int:=w.e.Ids.l.map (fun id=>Zn w.s id)
def XP (s:Sta) (k:Int):Str:=match s.Doors[k.toNat]? with | some d=>d.Street | none=>emp
def JG (s:Sta) (st:Str) (k:Int):Bool:=!((QN s k != -1||!Z3 (Vu s k) emp)||!Z3 (XP s k) st)
def Kc (w:Wk):Int:=
 bif twB w w.e.Id then 8 else bif (Zf w).any (fun x=>-1==x) then 10
 else bif Zu (fun _ k=>JG w.s (XP w.s ((Zf w).headD 0)) k) 0 (Zf w) then 0 else 11
def WP (w:Wk) (d:Door):Door:=⟨w.e.Id,d.Building,d.Street,0,w.e.Number,w.e.Point,0,0,⟨false,[]⟩,0,0,emp⟩
def Kd (w:Wk):Wk:=
 match w.s.Doors[((Zf w).headD 0).toNat]? with
 | some d=>Yg (Qw w (WP w d)) (Zf w) ⟨false,[w.e.Id]⟩
 | none=>w
theorem Z43 (o0 o1:AObj) (h0:∀ n,Zj n o0=true) (h1:∀ n,Zj n o1=true) (w:Wk) (hw:WkS w):
 ∃ fr',Zg rE [0,3,23,24,25] c46L0b [(0,.ptr 2 0 0 1),(3,.sl 3 0 0 0 false),(23,.isl false w.e.Ids.ex 1 (w.e.Ids.l.map encS)),(24,I w.e.Ids.l.length),(25,.int .i64 0)] (wH o0 o1 w++[.row 1 []]) =
  some (.exit 0,fr',wH o0 o1 w++[.row 1 ((Zf w).map I)])∧get fr' 0=.ptr 2 0 0 1∧get fr' 3=.sl 3 (Zf w).length 0 (Zf w).length false:=by
 have hbS:∀ n (K:List Int),Zd n (K.map I)=true:=fun n K=>ZN _ (Zw (fun t=>rfl) K)
 have hl:=hw.e.ids;have L:=Y8 (E:=rE) (live:=[0,3,23,24,25]) (b:=c46L0b) w.e.Ids.l.length
  (fun i=>[(0,.ptr 2 0 0 1),(3,.sl 3 i 0 i false),(23,.isl false w.e.Ids.ex 1 (w.e.Ids.l.map encS)),(24,I w.e.Ids.l.length),(25,I i)])
  (fun i=>wH o0 o1 w++[.row 1 (((w.e.Ids.l.take i).map (fun id=>Zn w.s id)).map I)]) (fun i=>rfl)
  (fun i hi=>by
   obtain ⟨x,hx⟩:∃ x,w.e.Ids.l[i]? = some x:=⟨_,ZO6 hi⟩;have hg:=Z6 (f:=encS) hx;have hi':=Zh hi;have hwr:=Zx (n:=i) (by omega)
   have ht:=YW (fun id=>Zn w.s id) hx
   have hn:((w.e.Ids.l.take i).map (fun id=>Zn w.s id)).length=i:=by rw [ZO3,take_len hx]
   have e1:((w.e.Ids.l.take (i+1)).map (fun id=>Zn w.s id)).map I=((w.e.Ids.l.take i).map (fun id=>Zn w.s id)).map I++[I (Zn w.s x)]:=by
    rw [ht,ZOk];rfl
   have hf:=find_ok w.s hw.s x;rw [e1];generalize (w.e.Ids.l.take i).map (fun id=>Zn w.s id)=KS at hn ⊢
   have ha:=fun p0 p1 p2=>XC (h:=[p0,p1,p2,.row 1 (KS.map I)]) (fz:=false) (b:=3) (g:=i) (sz:=1) (es:=KS.map I) (bw:=false) (ex:=false) (ys:=[I (Zn w.s x)]) (bytes:=8) (by simp [rowAt,hn]) rfl (by simp [Qq];rfl) (by omega) (by omega) (by simp;omega)
   refine ⟨[(0,.ptr 2 0 0 1),(3,.sl 3 (i+1) 0 (i+1) false),(23,.isl false w.e.Ids.ex 1 (w.e.Ids.l.map encS)),(24,I w.e.Ids.l.length),(25,I (i+1:Nat))],?_,rfl⟩;simp only [go_sem,qy,qq,qv,qk,reduceIte,c46L0b,wH,hg,hi',hwr,encS,hf,ha,beq_self_eq_true,hbS,h0,h1])
  (e:=.exit 0) (fr:=[(0,.ptr 2 0 0 1),(3,.sl 3 w.e.Ids.l.length 0 w.e.Ids.l.length false),(23,.isl false w.e.Ids.ex 1 (w.e.Ids.l.map encS)),(24,I w.e.Ids.l.length),(25,I w.e.Ids.l.length)]) (h:=wH o0 o1 w++[.row 1 (((w.e.Ids.l.take w.e.Ids.l.length).map (fun id=>Zn w.s id)).map I)])
  (by simp only [go_sem,qy,qq,qv,reduceIte,c46L0b,ZG,wH,hbS,h0,h1]) (by simp)
 rw [ZOE] at L;have e2:(Zf w).length=w.e.Ids.l.length:=by simp [Zf]
 rw [e2];exact ⟨_,L,by simp only [go_sem,qy],by simp only [go_sem,qy]⟩
theorem Z44 {l:List Int} (h:l.any (fun x=>-1==x)=false) {i:Nat} {k:Int} (hk:l[i]? = some k):k≠-1:=by
 intro e;rw [ZPb] at h;exact h k (ZOh hk) (by rw [e];rfl)
theorem UK (w:Wk) (h:(Zf w).any (fun x=>-1==x)=false) {i:Nat} {k:Int} (hk:(Zf w)[i]? = some k):∃ (j:Nat) (d:Door),k=(j:Int)∧w.s.Doors[j]? = some d:=by
 have hne:=Z44 h hk;unfold Zf at hk;rw [ZOF] at hk;cases hx:w.e.Ids.l[i]? with
 | none=>rw [hx] at hk;cases hk
 | some id=>
  rw [hx] at hk;have hk':Zn w.s id=k:=Option.some.inj hk;have hc:decide (Zn w.s id < 0)=false:=by
   rcases UA (fun x:Door=>Z3 x.Id id) w.s.Doors 0 with ⟨h1,_⟩ | ⟨j,x,h1,h2,_⟩
   ·exact absurd (show k=-1 by rw [←hk'];exact h1) hne
   ·have:Zn w.s id=0+(j:Int):=h1;rw [this];exact decide_eq_false (by omega)
  obtain ⟨j,d,h1,h2⟩:=QC hc;exact ⟨j,d,by rw [←hk'];exact h1,h2⟩
theorem Z45 (o0 o1:AObj) (h0:∀ n,Zj n o0=true) (h1:∀ n,Zj n o1=true) (w:Wk) (hw:WkS w) (hn:(Zf w).any (fun x=>-1==x)=false) (d:Door):
 ∃ fr' h',Zg rE [0,3,6,51,52,53] c46L1b [(0,.ptr 2 0 0 1),(3,.sl 3 (Zf w).length 0 (Zf w).length false),(6,.ptr 4 0 0 1),(51,.sl 3 (Zf w).length 0 (Zf w).length false),(52,I (Zf w).length),(53,.int .i64 0)] (wH o0 o1 w++[.row 1 ((Zf w).map I),.row 16 [Zo d]]) =
  some (if Zu (fun _ k=>JG w.s d.Street k) 0 (Zf w)=true then .exit 2 else .ret,fr',h')∧
  (Zu (fun _ k=>JG w.s d.Street k) 0 (Zf w)=true→(get fr' 0=.ptr 2 0 0 1∧get fr' 2=.bot∧get fr' 3=.sl 3 (Zf w).length 0 (Zf w).length false∧get fr' 6=.ptr 4 0 0 1)∧h'=wH o0 o1 w++[.row 1 ((Zf w).map I),.row 16 [Zo d]])∧
  (Zu (fun _ k=>JG w.s d.Street k) 0 (Zf w)=false→(get fr' 0=.ptr 2 0 0 1∧get fr' 2=.int .i64 11∧get fr' 3=.sl 3 (Zf w).length 0 (Zf w).length false∧get fr' 6=.ptr 4 0 0 1)∧h'=wH o0 o1 w++[.row 1 ((Zf w).map I),.row 16 [Zo d]]):=by
 have hbS:∀ n (K:List Int),Zd n (K.map I)=true:=fun n K=>ZN _ (Zw (fun t=>rfl) K)
 have hlen:(Zf w).length≤100:=by simp [Zf];exact hw.e.ids
 have L:=Jk (E:=rE) (live:=[0,3,6,51,52,53]) (b:=c46L1b) (Zf w) (fun _ k=>JG w.s d.Street k)
  (fun i=>[(0,.ptr 2 0 0 1),(3,.sl 3 (Zf w).length 0 (Zf w).length false),(6,.ptr 4 0 0 1),(51,.sl 3 (Zf w).length 0 (Zf w).length false),(52,I (Zf w).length),(53,I i)])
  (fun i=>wH o0 o1 w++[.row 1 ((Zf w).map I),.row 16 [Zo d]]) 2
  (fun fr' h'=>(get fr' 0=.ptr 2 0 0 1∧get fr' 2=.bot∧get fr' 3=.sl 3 (Zf w).length 0 (Zf w).length false∧get fr' 6=.ptr 4 0 0 1)∧h'=wH o0 o1 w++[.row 1 ((Zf w).map I),.row 16 [Zo d]])
  (fun fr' h'=>(get fr' 0=.ptr 2 0 0 1∧get fr' 2=.int .i64 11∧get fr' 3=.sl 3 (Zf w).length 0 (Zf w).length false∧get fr' 6=.ptr 4 0 0 1)∧h'=wH o0 o1 w++[.row 1 ((Zf w).map I),.row 16 [Zo d]])
  (fun i=>rfl)
  (fun i k hk hp=>by
   have hi:=Z7 hk;obtain ⟨j,y,rfl,hy⟩:=UK w hn hk;have hg:=Z6 (f:=I) hk;have gy:=Z6 (f:=Door.enc) hy;have hi':=Zh hi;have hwr:=Zx (n:=i) (by omega)
   have hdE:QN w.s (j:Int)=y.Ended:=by simp [QN,hy]
   have hdV:Vu w.s (j:Int)=y.Veil:=by simp [Vu,hy]
   have hdS:XP w.s (j:Int)=y.Street:=by simp [XP,hy]
   have hp':(!((y.Ended != -1||!Z3 y.Veil emp)||!Z3 y.Street d.Street))=true:=by rw [←hdE,←hdV,←hdS];exact hp
   have c1:(y.Ended != -1)=false:=by revert hp';cases (y.Ended != -1)<;>simp
   have c2:Z3 y.Veil emp=true:=by revert hp';rw [c1];cases Z3 y.Veil emp<;>simp
   have c5003:Z3 y.Street d.Street=true:=by revert hp';rw [c1,c2];cases Z3 y.Street d.Street<;>simp
   have hlt:((i:Int) < ((Zf w).length:Int)):=by omega
   refine ⟨[(0,.ptr 2 0 0 1),(2,.bot),(3,.sl 3 (Zf w).length 0 (Zf w).length false),(6,.ptr 4 0 0 1),(51,.sl 3 (Zf w).length 0 (Zf w).length false),(52,I (Zf w).length),(53,I (i+1:Nat))],?_,rfl⟩;have hia:iaP 3 (Zf w).length 0 1 (i:Int) (Zf w).length (some (1,(Zf w).map I))=some (.ptr 3 i 0 (Zf w).length):=by
    rw [VT _ _ _ _ _ _ _ ⟨by omega,hlt⟩];simp
   simp only [go_sem,qy,qq,qv,qk,reduceIte,c46L1b,wH,Zo,hg,gy,hi',hwr,hia,Door.enc,NL.enc,c1,c2,c5003,beq_self_eq_true,hbS,h0,h1])
  (fun i k hk hp=>by
   have hi:=Z7 hk;obtain ⟨j,y,rfl,hy⟩:=UK w hn hk;have hg:=Z6 (f:=I) hk;have gy:=Z6 (f:=Door.enc) hy;have hi':=Zh hi;have hdE:QN w.s (j:Int)=y.Ended:=by simp [QN,hy]
   have hdV:Vu w.s (j:Int)=y.Veil:=by simp [Vu,hy]
   have hdS:XP w.s (j:Int)=y.Street:=by simp [XP,hy]
   have hp':(!((y.Ended != -1||!Z3 y.Veil emp)||!Z3 y.Street d.Street))=false:=by rw [←hdE,←hdV,←hdS];exact hp
   have hlt:((i:Int) < ((Zf w).length:Int)):=by omega
   have hia:iaP 3 (Zf w).length 0 1 (i:Int) (Zf w).length (some (1,(Zf w).map I))=some (.ptr 3 i 0 (Zf w).length):=by
    rw [VT _ _ _ _ _ _ _ ⟨by omega,hlt⟩];simp
   cases c1:(y.Ended != -1) with
   | true=>exact ⟨_,_,by simp only [go_sem,qy,qq,qv,qk,reduceIte,c46L1b,wH,Zo,hg,gy,hi',hia,Door.enc,NL.enc,c1,beq_self_eq_true,hbS,h0,h1];rfl,⟨by simp only [go_sem,qy],by simp only [go_sem,qy],by simp only [go_sem,qy],by simp only [go_sem,qy]⟩,rfl⟩
   | false=>
   cases c2:Z3 y.Veil emp with
   | false=>exact ⟨_,_,by simp only [go_sem,qy,qq,qv,qk,reduceIte,c46L1b,wH,Zo,hg,gy,hi',hia,Door.enc,NL.enc,c1,c2,beq_self_eq_true,hbS,h0,h1];rfl,⟨by simp only [go_sem,qy],by simp only [go_sem,qy],by simp only [go_sem,qy],by simp only [go_sem,qy]⟩,rfl⟩
   | true=>
   cases c5003:Z3 y.Street d.Street with
   | true=>rw [c1,c2,c5003] at hp';cases hp'
   | false=>exact ⟨_,_,by simp only [go_sem,qy,qq,qv,qk,reduceIte,c46L1b,wH,Zo,hg,gy,hi',hia,Door.enc,NL.enc,c1,c2,c5003,beq_self_eq_true,hbS,h0,h1];rfl,⟨by simp only [go_sem,qy],by simp only [go_sem,qy],by simp only [go_sem,qy],by simp only [go_sem,qy]⟩,rfl⟩)
  ⟨_,_,by simp only [go_sem,qy,qq,qv,reduceIte,c46L1b,wH,Zo,ZG,hbS,h0,h1];rfl,⟨by simp only [go_sem,qy],by simp only [go_sem,qy],by simp only [go_sem,qy],by simp only [go_sem,qy]⟩,rfl⟩
 exact L
theorem Z46 (o0 o1:AObj) (h0:∀ n,Zj n o0=true) (h1:∀ n,Zj n o1=true) (l:List Int) (hlen:l.length≤100) (w:Wk) (hu:w.s.Units.length≤1000) (hdd:w.s.Doors.length≤1000000) (hok:∀ (i:Nat) (k:Int),l[i]? = some k→∃ j:Nat,k=(j:Int)∧j < w.s.Doors.length) (d:Door):
 ∃ fr',Zg rE [0,103,104,105] c46L2b [(0,.ptr 2 0 0 1),(103,.sl 3 l.length 0 l.length false),(104,I l.length),(105,.int .i64 0)] (wH o0 o1 w++[.row 1 (l.map I),.row 16 [Zo d]]) =
  some (.exit 4,fr',wH o0 o1 (Yg w l ⟨false,[w.e.Id]⟩)++[.row 1 (l.map I),.row 16 [Zo d]]):=by
 have hbS:∀ n (K:List Int),Zd n (K.map I)=true:=fun n K=>ZN _ (Zw (fun t=>rfl) K)
 have L:=Y8 (E:=rE) (live:=[0,103,104,105]) (b:=c46L2b) l.length
  (fun i=>[(0,.ptr 2 0 0 1),(103,.sl 3 l.length 0 l.length false),(104,I l.length),(105,I i)])
  (fun i=>wH o0 o1 (Yg w (l.take i) ⟨false,[w.e.Id]⟩)++[.row 1 (l.map I),.row 16 [Zo d]]) (fun i=>rfl)
  (fun i hi=>by
   obtain ⟨k,hk⟩:∃ k,l[i]? = some k:=⟨_,ZO6 hi⟩;obtain ⟨j,rfl,hj⟩:=hok i k hk;have hg:=Z6 (f:=I) hk;have hi':=Zh hi;have hwr:=Zx (n:=i) (by omega)
   have hlt:((i:Int) < (l.length:Int)):=by omega
   have hia:iaP 3 l.length 0 1 (i:Int) l.length (some (1,l.map I))=some (.ptr 3 i 0 l.length):=by
    rw [VT _ _ _ _ _ _ _ ⟨by omega,hlt⟩];simp
   rw [Z3Y w hk];have he:=Z3Z (l.take i) ⟨false,[w.e.Id]⟩ w;have hdl:=Z40 (l.take i) ⟨false,[w.e.Id]⟩ w;have hul:=Z41 (l.take i) ⟨false,[w.e.Id]⟩ w;generalize Yg w (l.take i) ⟨false,[w.e.Id]⟩=W at he hdl hul ⊢;obtain ⟨y,hy⟩:∃ y,W.s.Doors[j]? = some y:=⟨_,ZO6 (by rw [hdl];exact hj)⟩
   have hE:=Hq o0 o1 h0 h1 ⟨false,[w.e.Id]⟩ W (by rw [hul];exact hu) (by rw [hdl];exact hdd) j y hy [.row 1 (l.map I),.row 16 [Zo d]] (Or.inr ⟨_,_,rfl,fun n _=>by simp only [go_sem,hbS],fun n _=>rfl⟩)
   have hn:((j:Int)).toNat=j:=rfl;rw [hn];generalize Qf W j ⟨false,[w.e.Id]⟩=W2 at hE ⊢;refine ⟨[(0,.ptr 2 0 0 1),(103,.sl 3 l.length 0 l.length false),(104,I l.length),(105,I (i+1:Nat))],?_,rfl⟩;simp only [wH,Zo,encS,ZOa,ZOl,ZOb,ZOy] at hE ⊢;simp only [go_sem,qy,qq,qv,reduceIte,c46L2b,hg,hi',hwr,hia,he,hE,beq_self_eq_true,hbS,h0,h1])
  (e:=.exit 4) (fr:=[(0,.ptr 2 0 0 1),(103,.sl 3 l.length 0 l.length false),(104,I l.length),(105,I l.length)]) (h:=wH o0 o1 (Yg w (l.take l.length) ⟨false,[w.e.Id]⟩)++[.row 1 (l.map I),.row 16 [Zo d]])
  (by simp only [go_sem,qy,qq,qv,reduceIte,c46L2b,Zo,ZG,wH,hbS,h0,h1]) (by simp)
 rw [ZOE] at L;exact ⟨_,L⟩
theorem FD {l:List Int} (h:0 < l.length):l[0]? = some (l.headD 0):=by
 cases l with
 | nil=>simp at h
 | cons x r=>rfl
theorem Z47 (o0 o1:AObj) (h0:∀ n,Zj n o0=true) (h1:∀ n,Zj n o1=true) (w:Wk) (hw:WkS w) (hne:0 < w.e.Ids.l.length):∃ t,fnV rE 46 [.ptr 2 0 0 1] (wH o0 o1 w)=some (I (Kc w),wH o0 o1 (bif Kc w==0 then Kd w else w)++t):=by
 have hbS:∀ n (K:List Int),Zd n (K.map I)=true:=fun n K=>ZN _ (Zw (fun t=>rfl) K)
 have hcS:∀ K:List Int,Z4 (K.map I)=true:=fun K=>Zw (fun t=>rfl) K
 have htw:=Wj w hw w.e.Id;have z8:((8:Int)==0)=false:=rfl;have z10:((10:Int)==0)=false:=rfl;have z11:((11:Int)==0)=false:=rfl;have z0:((0:Int)==0)=true:=rfl;have hlen:(Zf w).length=w.e.Ids.l.length:=by simp [Zf]
 have hl:=hw.e.ids;obtain ⟨f0,l0,q0,q3⟩:=Z43 o0 o1 h0 h1 w hw;simp only [wH,ZOa,ZOl] at l0;have hz:List.take (Zf w).length ((Zf w).map I)=(Zf w).map I:=ZOs (by simp)
 have hh:=Z42 (Zf w) false (-1) (by omega)
 rw [Q6 (f:=46) rfl rfl];unfold Kc;cases c0:twB w w.e.Id with
 | true=>
  rw [c0] at htw;refine ⟨[],?_⟩;simp only [go_sem,qy,qq,qv,c46,wH,htw,z8,ZOc]
 | false=>
 rw [c0] at htw;cases c1:(Zf w).any (fun x=>-1==x) with
 | true=>
  rw [c1] at hh;refine ⟨[.row 1 ((Zf w).map I)],?_⟩;simp only [go_sem,qy,qq,qv,c46,c46L0,wH,htw,l0,q0,q3,hh,hz,hcS,hbS,h0,h1,z10,beq_self_eq_true]
 | false=>
 rw [c1] at hh;have hk0:=FD (l:=Zf w) (by omega)
 obtain ⟨j,d,hj,hd⟩:=UK w c1 hk0;have hg:=Z6 (f:=I) hk0;have gd:=Z6 (f:=Door.enc) hd;have hlt:((0:Int) < ((Zf w).length:Int)):=by omega
 have hia:iaP 3 (Zf w).length 0 1 (0:Int) (Zf w).length (some (1,(Zf w).map I))=some (.ptr 3 0 0 (Zf w).length):=by
  rw [VT _ _ _ _ _ _ _ ⟨by omega,hlt⟩];simp
 rw [hj] at hg;have hdS:XP w.s (j:Int)=d.Street:=by simp [XP,hd]
 rw [hj,hdS];obtain ⟨f1,g1,l1,a1,b1⟩:=Z45 o0 o1 h0 h1 w hw c1 d;cases c2:Zu (fun _ k=>JG w.s d.Street k) 0 (Zf w) with
 | false=>
  rw [c2] at l1;obtain ⟨⟨p0,p2,p3,p6⟩,rfl⟩:=b1 c2;simp only [wH,Zo,ZOa,ZOl,ZOd,if_false] at l1;refine ⟨[.row 1 ((Zf w).map I),.row 16 [Zo d]],?_⟩;simp only [go_sem,qy,qq,qv,qk,c46,c46L0,c46L1,wH,htw,l0,q0,q3,hh,hz,hcS,hbS,h0,h1,z11,beq_self_eq_true,hg,gd,hia,Door.enc,NL.enc,Zo,l1,p0,p2,p3,p6]
 | true=>
  rw [c2,if_pos rfl] at l1;obtain ⟨⟨p0,p2,p3,p6⟩,rfl⟩:=a1 c2;simp only [wH,Zo,ZOa,ZOl] at l1;have hdb:=hw.s.doors;obtain ⟨q,ho,hq⟩:=Fz o0 o1 w (by omega) (WP w d) [.row 1 ((Zf w).map I),.row 16 [Zo d]] (Or.inr (Or.inr (Or.inl ⟨_,_,rfl⟩)))
  obtain ⟨f2,l2⟩:=Z46 o0 o1 h0 h1 (Zf w) (by omega) (Qw w (WP w d)) hw.s.units (by simp [Qw];omega) (fun (i:Nat) (k:Int) (hk:(Zf w)[i]? = some k)=>by
   obtain ⟨j',d',e1,e2⟩:=UK w c1 hk;exact ⟨j',e1,by have:=Z7 e2;simp [Qw];omega⟩) d
  have hs:Kd w=Yg (Qw w (WP w d)) (Zf w) ⟨false,[w.e.Id]⟩:=by
   have hn:((j:Int)).toNat=j:=rfl;unfold Kd;rw [hj,hn,hd]
  have hid:(Qw w (WP w d)).e.Id=w.e.Id:=rfl;rw [hid] at l2;rw [hs];generalize Yg (Qw w (WP w d)) (Zf w) ⟨false,[w.e.Id]⟩=W2 at l2 ⊢;generalize Qw w (WP w d)=W1 at l2 ho;unfold WP Zo at ho;simp only [wH,Zo,ZOa,ZOl,ZOy] at l2 ho;refine ⟨[.row 1 ((Zf w).map I),.row 16 [Zo d]],?_⟩;simp only [go_sem,qy,qq,qv,qk,c46,c46L0,c46L1,c46L2,wH,htw,l0,q0,q3,hh,hz,hcS,hbS,h0,h1,z0,beq_self_eq_true,hg,gd,hia,Door.enc,NL.enc,l1,p0,p2,p3,p6,ho,l2,Zo]
end Go.AM
namespace Go.AM
open Go
theorem FE (n:Nat) (h:3≤n):Zj n (.row 1 [.ptr 2 0 0 1])=true:=by
 have:decide (2 < n)=true:=decide_eq_true (by omega)
 simp [Zj,Zd,bel];omega
def Ke (e:Event) (x:Building):Building:={ x with Ended:=e.Day }
theorem Z48 (w:Wk) (l:List Building) (k:Nat) (x:Building) (hx:l[k]? = some x) (hle:l.length≤1000000):pfn rE 99 [.isl false false 4 (l.map Building.enc),I k,.clo (.func 100) [] [.iptr true [.iptr true (wkC w)]]]=some (.isl false false 4 ((ZK l k (Ke w.e)).map Building.enc)):=by
 have hk:=Z7 hx;have hg:=Z6 (f:=Building.enc) hx;rw [YA hx,ZOw];refine Xk (sz:=4) (f:=168) rfl rfl rfl _ _ _ (.tup []) false k (by simpa using hk) (Xj (fun _=>rfl) _) (by simpa using hle) ?_ (by simp) ?_
 ·rw [Q6 (f:=100) rfl rfl];simp only [go_sem,qy,qq,qk,c100,beq_self_eq_true,hg,Building.enc,NL.enc,Ke]
 ·rw [←ZOw];exact Zw (fun t=>rfl) _
def NV (id:Str) (x:Door):Bool:=Z3 x.Building id&&x.Ended==-1
def Y6 (w:Wk) (l:List Door):Nat→Wk
 | 0=>w
 | i+1=>match l[i]? with
  | some x=>bif NV w.e.Id x then Qf (Y6 w l i) i ⟨false,[]⟩ else Y6 w l i
  | none=>Y6 w l i
theorem FF (w:Wk) (l:List Door):∀ i,(Y6 w l i).e=w.e∧(Y6 w l i).s.Doors.length=w.s.Doors.length∧(Y6 w l i).s.Units.length=w.s.Units.length
 | 0=>⟨rfl,rfl,rfl⟩
 | i+1=>by
  have ih:=FF w l i;rw [Y6];cases l[i]? with
  | none=>exact ih
  | some x=>
   dsimp only;cases NV w.e.Id x with
   | false=>exact ih
   | true=>
    rw [cond_true,FA,FB,FC];exact ih
def JH (w:Wk) (l:List Building):Wk:={ w with s:={ w.s with Buildings:=l } }
theorem Z49 (o0 o1:AObj) (h0:∀ n,Zj n o0=true) (h1:∀ n,Zj n o1=true) (w:Wk) (hu:w.s.Units.length≤1000) (hd:w.s.Doors.length≤1000):
 ∃ fr',Zg rE [1,46,47,48] c47L0b [(1,.ptr 3 0 0 1),(46,.isl false false 16 (w.s.Doors.map Door.enc)),(47,I w.s.Doors.length),(48,.int .i64 0)] (wH o0 o1 w++[.row 1 [.ptr 2 0 0 1]]) =
  some (.exit 1,fr',wH o0 o1 (Y6 w w.s.Doors w.s.Doors.length)++[.row 1 [.ptr 2 0 0 1]]):=by
 have L:=Y8 (E:=rE) (live:=[1,46,47,48]) (b:=c47L0b) w.s.Doors.length
  (fun i=>[(1,.ptr 3 0 0 1),(46,.isl false false 16 (w.s.Doors.map Door.enc)),(47,I w.s.Doors.length),(48,I i)])
  (fun i=>wH o0 o1 (Y6 w w.s.Doors i)++[.row 1 [.ptr 2 0 0 1]]) (fun i=>rfl)
  (fun i hi=>by
   obtain ⟨x,hx⟩:∃ x,w.s.Doors[i]? = some x:=⟨_,ZO6 hi⟩;have hg:=Z6 (f:=Door.enc) hx;have hi':=Zh hi;have hwr:=Zx (n:=i) (by omega)
   obtain ⟨he,hdl,hul⟩:=FF w w.s.Doors i;have hS:Y6 w w.s.Doors (i+1)=bif Z3 x.Building w.e.Id&&x.Ended==-1 then Qf (Y6 w w.s.Doors i) i ⟨false,[]⟩ else Y6 w w.s.Doors i:=by
    rw [Y6,hx];rfl
   rw [hS];generalize Y6 w w.s.Doors i=W at he hdl hul ⊢;obtain ⟨y,hy⟩:∃ y,W.s.Doors[i]? = some y:=⟨_,ZO6 (by rw [hdl];exact hi)⟩
   have hE:=Hq o0 o1 h0 h1 ⟨false,[]⟩ W (by rw [hul];exact hu) (by rw [hdl];omega) i y hy [.row 1 [.ptr 2 0 0 1],.row 16 [x.enc]] (Or.inr ⟨_,_,rfl,FE,fun n _=>rfl⟩)
   generalize Qf W i ⟨false,[]⟩=W2 at hE ⊢;refine ⟨[(1,.ptr 3 0 0 1),(46,.isl false false 16 (w.s.Doors.map Door.enc)),(47,I w.s.Doors.length),(48,I (i+1:Nat))],?_,rfl⟩;simp only [wH,ZOa,ZOl,ZOy,Door.enc,NL.enc] at hE ⊢;cases c1:Z3 x.Building w.e.Id with
   | false=>simp only [go_sem,qy,qq,qv,qk,reduceIte,c47L0b,hg,hi',hwr,he,c1,Door.enc,NL.enc,h0,h1]
   | true=>
   cases c2:x.Ended==-1 with
   | false=>simp only [go_sem,qy,qq,qv,qk,reduceIte,c47L0b,hg,hi',hwr,he,c1,c2,Door.enc,NL.enc,h0,h1]
   | true=>simp only [go_sem,qy,qq,qv,qk,reduceIte,c47L0b,hg,hi',hwr,he,c1,c2,Door.enc,NL.enc,h0,h1,hE])
  (e:=.exit 1) (fr:=[(1,.ptr 3 0 0 1),(46,.isl false false 16 (w.s.Doors.map Door.enc)),(47,I w.s.Doors.length),(48,I w.s.Doors.length)]) (h:=wH o0 o1 (Y6 w w.s.Doors w.s.Doors.length)++[.row 1 [.ptr 2 0 0 1]])
  (by simp only [go_sem,qy,qq,reduceIte,c47L0b,ZG,wH,h0,h1]) (by simp)
 exact ⟨_,L⟩
def Hs (w:Wk):Int:=bif decide (Y1 w.s w.e.Id < 0) then 10 else bif WL w.s (Y1 w.s w.e.Id) != -1 then 11 else 0
def Ht (w:Wk):Wk:=Y6 (JH w (ZK w.s.Buildings (Y1 w.s w.e.Id).toNat (Ke w.e))) w.s.Doors w.s.Doors.length
theorem Z4a (o0 o1:AObj) (h0:∀ n,Zj n o0=true) (h1:∀ n,Zj n o1=true) (w:Wk) (hw:WkS w):∃ t,fnV rE 47 [.ptr 2 0 0 1] (wH o0 o1 w)=some (I (Hs w),wH o0 o1 (bif Hs w==0 then Ht w else w)++t):=by
 have hb:=Hb w.s hw.s w.e.Id;have z10:((10:Int)==0)=false:=rfl;have z11:((11:Int)==0)=false:=rfl;have z0:((0:Int)==0)=true:=rfl;rw [Q6 (f:=47) rfl rfl];unfold Hs Ht;refine ⟨[.row 1 [.ptr 2 0 0 1]],?_⟩;cases c1:decide (Y1 w.s w.e.Id < 0) with
 | true=>simp only [go_sem,qy,qq,qv,qk,reduceIte,c47,wH,hb,c1,z10]
 | false=>
 obtain ⟨j,x,hj,hx⟩:=QC c1;have hj':Y1 w.s w.e.Id=(j:Int):=hj;have gx:=Z6 (f:=Building.enc) hx;have hE:WL w.s (j:Int)=x.Ended:=by simp [WL,hx]
 have hn:((j:Int)).toNat=j:=rfl;have hch:=Z48 w w.s.Buildings j x hx (by have:=hw.s.buildings;omega)
 rw [hj'] at hb c1 ⊢;rw [hE,hn];cases c2:x.Ended != -1 with
 | true=>simp only [go_sem,qy,qq,qv,qk,reduceIte,c47,wH,hb,c1,gx,Building.enc,NL.enc,c2,z11]
 | false=>
  obtain ⟨f1,l1⟩:=Z49 o0 o1 h0 h1 (JH w (ZK w.s.Buildings j (Ke w.e))) hw.s.units hw.s.doors;have hdd:(JH w (ZK w.s.Buildings j (Ke w.e))).s.Doors=w.s.Doors:=rfl;rw [hdd] at l1;generalize Y6 (JH w (ZK w.s.Buildings j (Ke w.e))) w.s.Doors w.s.Doors.length=W2 at l1 ⊢;simp only [wH,JH,ZOa,ZOl] at l1;simp only [go_sem,qy,qq,qv,qk,reduceIte,c47,c47L0,wH,hb,c1,gx,Building.enc,NL.enc,c2,z0,hch,l1,h0,h1]
end Go.AM
namespace Go.AM
open Go
theorem c48_eq:c48=.seq s48p0 (.seq s48p1 (.seq s48p2 (.seq s48p3 (.seq s48p4 (.seq s48p5 (.seq s48p6 (.seq s48p7 .ret))))))):=rfl
def UL (e:Event) (x:Region):Region:={ x with Ended:=e.Day }
def UM (e:Event) (x:Street):Street:={ x with Ended:=e.Day }
def UN (e:Event) (x:Unit'):Unit':={ x with Ended:=e.Day,Why:=e.Kind }
theorem Z4b (w:Wk) (l:List Region) (k:Nat) (x:Region) (hx:l[k]? = some x) (hle:l.length≤1000000):pfn rE 79 [.isl false false 6 (l.map Region.enc),I k,.clo (.func 101) [] [.iptr true [.iptr true (wkC w)]]]=some (.isl false false 6 ((ZK l k (UL w.e)).map Region.enc)):=by
 have hk:=Z7 hx;have hg:=Z6 (f:=Region.enc) hx;rw [YA hx,ZOw];refine Xk (sz:=6) (f:=156) rfl rfl rfl _ _ _ (.tup []) false k (by simpa using hk) (Xj (fun _=>rfl) _) (by simpa using hle) ?_ (by simp) ?_
 ·rw [Q6 (f:=101) rfl rfl];simp only [go_sem,qy,qq,qk,c101,beq_self_eq_true,hg,Region.enc,NL.enc,UL]
 ·rw [←ZOw];exact Zw (fun t=>rfl) _
theorem Z4c (w:Wk) (l:List Street) (k:Nat) (x:Street) (hx:l[k]? = some x) (hle:l.length≤1000000):pfn rE 84 [.isl false false 5 (l.map Street.enc),I k,.clo (.func 104) [] [.iptr true [.iptr true (wkC w)]]]=some (.isl false false 5 ((ZK l k (UM w.e)).map Street.enc)):=by
 have hk:=Z7 hx;have hg:=Z6 (f:=Street.enc) hx;rw [YA hx,ZOw];refine Xk (sz:=5) (f:=159) rfl rfl rfl _ _ _ (.tup []) false k (by simpa using hk) (Xj (fun _=>rfl) _) (by simpa using hle) ?_ (by simp) ?_
 ·rw [Q6 (f:=104) rfl rfl];simp only [go_sem,qy,qq,qk,c104,beq_self_eq_true,hg,Street.enc,NL.enc,UM]
 ·rw [←ZOw];exact Zw (fun t=>rfl) _
theorem Z4d (w:Wk) (l:List Unit') (k:Nat) (x:Unit') (hx:l[k]? = some x) (hle:l.length≤1000000):pfn rE 106 [.isl false false 6 (l.map Unit'.enc),I k,.clo (.func 107) [] [.iptr true [.iptr true (wkC w)]]]=some (.isl false false 6 ((ZK l k (UN w.e)).map Unit'.enc)):=by
 have hk:=Z7 hx;have hg:=Z6 (f:=Unit'.enc) hx;have hs:∀ v,((l.map Unit'.enc).set k v)[k]? = some v:=fun v=>by simp [hk]
 rw [YA hx,ZOw];refine Xk (sz:=6) (f:=172) rfl rfl rfl _ _ _ (.tup []) false k (by simpa using hk) (Xj (fun _=>rfl) _) (by simpa using hle) ?_ (by simp) ?_
 ·rw [Q6 (f:=107) rfl rfl];simp only [go_sem,qy,qq,qk,c107,beq_self_eq_true,hg,hs,List.set_set,ZPn,ZO3,Unit'.enc,UN]
 ·rw [←ZOw];exact Zw (fun t=>rfl) _
theorem Z4e {E:Env} {α:Type} {sz:Nat} {n:Option Nat} {enc:α→AV} {p:α→Bool} {g:Nat} {cap:List AV} (l:List α) (hfz:∀ x∈l,Ql [] (enc x::cap)=some (enc x::cap)) (hl:l.length≤4611686018427387904) (henc:∀ x∈l,Yu n (enc x))
 (hp:∀ x∈l,pfn E g (enc x::cap)=some (.bool (p x))) (bw ex:Bool):∀ (post pre:List α),l=pre++post→
  ∃ fr',Zb E (.loop [0,1,7,8] (XB sz n)) (Vd sz g cap enc l bw ex pre.length) []=some (if Zp p post pre.length=-1 then .exit 0 else .ret,fr',[])∧(Zp p post pre.length≠-1→get fr' 4=.int .i64 (Zp p post pre.length)):=by
 intro post;induction post with
 | nil=>
  intro pre hpre;have hd:decide ((pre.length:Int) < (l.length:Int))=false:=by subst hpre;simp
  rw [J2];unfold Vd;simp only [go_sem,XB,hd,qy,reduceIte,Zp];exact ⟨_,rfl,fun h=>absurd rfl h⟩
 | cons x post ih=>
  intro pre hpre;have hx:x∈l:=by rw [hpre];simp
  have hlen:pre.length < l.length:=by rw [hpre];simp
  have hd:decide ((pre.length:Int) < (l.length:Int))=true:=by simpa using hlen
  have hget:ixG (l.map enc) (pre.length:Int)=some (enc x):=by rw [hpre,ZOk,ZOb];have:=RK (pre.map enc) (enc x) (post.map enc);rwa [ZO3] at this
  have htk:=(henc x hx).2;have hcl:=hfz x hx;have hpx:=hp x hx;rw [J2];unfold Vd;have hw:IntKind.i64.wrap ((pre.length:Int)+1)=((pre++[x]).length:Int):=by rw [Zx (by omega)];simp
  have hw':((pre++[x]).length:Int)=(pre.length:Int)+1:=by simp
  cases hpv:p x with
  | true=>
   have h0:((pre.length:Int)=-1)=False:=by simp
   simp only [go_sem,XB,hd,hget,htk,hcl,hpx,hpv,qy,reduceIte,Zp,ZOl,ZOa,h0];exact ⟨_,rfl,fun _=>rfl⟩
  | false=>
   obtain ⟨fr',h1,h2⟩:=ih (pre++[x]) (by simp [hpre])
   rw [hw'] at h1 h2;simp only [go_sem,XB,hd,hget,htk,hcl,hpx,hpv,hw,qy,Nat.reduceAdd,reduceIte,Zp,ZOl,ZOa];rw [ZOj] at h1;exact ⟨fr',(Dl (by rfl)).trans h1,h2⟩
theorem FG {E:Env} {f:Nat} {α:Type} {sz:Nat} {n:Option Nat} {enc:α→AV} {p:α→Bool} {g:Nat} {cap:List AV} (hs:E.sum f=none) (hf:E.fn f=some ⟨[.tmp 4],GR sz n⟩) (l:List α) (hfz:∀ x∈l,Ql [] (enc x::cap)=some (enc x::cap)) (hl:l.length≤4611686018427387904)
 (henc:∀ x∈l,Yu n (enc x)) (hp:∀ x∈l,pfn E g (enc x::cap)=some (.bool (p x))) (bw ex:Bool):pfn E f [.isl bw ex sz (l.map enc),.clo (.func g) [] cap]=some (.int .i64 (Zp p l 0)):=by
 rw [Z5 hs hf];obtain ⟨fr',h1,h2⟩:=Z4e (E:=E) l hfz hl henc hp bw ex l [] rfl;have hr:Z2 [0,1,7,8] [(8,AV.int .i64 0),(7,AV.int .i64 l.length),(6,AV.isl bw ex sz (l.map enc)),(4,AV.int .i64 0),(0,AV.isl bw ex sz (l.map enc)),(1,AV.clo (.func g) [] cap)]=Z2 [0,1,7,8] (Vd sz g cap enc l bw ex 0):=by rfl
 have hL:Zb E (.loop [0,1,7,8] (XB sz n)) [(0,AV.isl bw ex sz (l.map enc)),(1,AV.clo (.func g) [] cap),(7,AV.int .i64 l.length),(8,AV.int .i64 0)] []=some (if Zp p l 0=-1 then .exit 0 else .ret,fr',[]):=h1
 unfold GR;by_cases h0:Zp p l 0=-1
 ·rw [if_pos h0] at hL;simp only [go_sem,hL,h0,qy,Nat.reduceAdd,ZO3]
 ·rw [if_neg h0] at hL;have h3:get fr' 4=AV.int .i64 (Zp p l 0):=h2 h0;simp only [go_sem,hL,h3,qy,Nat.reduceAdd,ZO3]
def Kf (s:Sta) (id:Str):Bool:=s.Doors.any (fun x=>Z3 x.Street id&&x.Ended==-1)
theorem Z4f (s:Sta) (hs:StS s) (id:Str):pfn rE 102 [.isl false false 16 (s.Doors.map Door.enc),.clo (.func 103) [] [.iptr true [.str id]]]=some (.bool (Kf s id)):=by
 have hp:∀ x:Door,pfn rE 103 [x.enc,.iptr true [.str id]]=some (.bool (Z3 x.Street id&&x.Ended==-1)):=fun x=>by
  rw [Z5 (f:=103) rfl rfl];cases c1:Z3 x.Street id with
  | false=>simp only [go_sem,qy,qq,c103,Door.enc,NL.enc,c1]
  | true=>simp only [go_sem,qy,qq,reduceIte,c103,Door.enc,NL.enc,c1]
 have h1:=FG (E:=rE) (f:=169) (sz:=16) (n:=some 16) (enc:=Door.enc) (p:=fun x=>Z3 x.Street id&&x.Ended==-1) (g:=103) (cap:=[.iptr true [.str id]]) rfl rfl s.Doors (fun x _=>GQ _ _ rfl (by simp [QJ,msz,Door.enc,NL.enc])) (by have:=hs.doors;omega) (fun x _=>x.el) (fun x _=>hp x) false false
 rw [Z5 (f:=102) rfl rfl];unfold Kf;rw [←Vg];unfold WG;simp only [go_sem,qy,qq,qk,reduceIte,c102,h1]
def Kg (s:Sta) (id:Str):Bool:=!decide (Qo s id < 0)&&WM s (Qo s id)==-1
def Kh (s:Sta) (id:Str):Bool:=!decide (ZL s id < 0)&&QF s (ZL s id)==-1
def Ki (s:Sta) (id:Str):Bool:=!decide (Zn s id < 0)&&QN s (Zn s id)==-1
def NW (s:Sta) (k:Int):Int:=match s.Units[k.toNat]? with | some b=>b.Ended | none=>0
def UO (s:Sta) (id:Str):Bool:=!decide (Wf s id < 0)&&NW s (Wf s id)==-1
def Hu (w:Wk) (l:List Region):Wk:={ w with s:={ w.s with Regions:=l } }
def Hv (w:Wk) (l:List Street):Wk:={ w with s:={ w.s with Streets:=l } }
abbrev shT (w:Wk):Hp:=[.row 1 [.ptr 2 0 0 1],.row 1 [.str w.e.Id]]
theorem Z4g (o0 o1:AObj) (h0:∀ n,Zj n o0=true) (h1:∀ n,Zj n o1=true) (w:Wk) (hw:WkS w):
 (Kg w.s w.e.Id=true→∃ fr' t,Zb rE s48p2 [(1,.ptr 3 0 0 1),(3,.ptr 4 0 0 1)] (wH o0 o1 w++shT w)=some (.ret,fr',wH o0 o1 (Hu w (ZK w.s.Regions (Qo w.s w.e.Id).toNat (UL w.e)))++t)∧get fr' 2=I 0)∧
 (Kg w.s w.e.Id=false→Zb rE s48p2 [(1,.ptr 3 0 0 1),(3,.ptr 4 0 0 1)] (wH o0 o1 w++shT w)=some (.normal,[(1,.ptr 3 0 0 1),(3,.ptr 4 0 0 1),(4,I (Qo w.s w.e.Id)),(32,.bool false)],wH o0 o1 w++shT w)):=by
 have hr:=NI w.s hw.s w.e.Id;unfold Kg;cases c1:decide (Qo w.s w.e.Id < 0) with
 | true=>
  have d1:=JE c1;refine ⟨fun h=>(by cases h),fun _=>?_⟩
  simp only [go_sem,qy,qq,qv,qk,reduceIte,s48p2,wH,shT,hr,d1]
 | false=>
  have d1:=K9 c1;obtain ⟨j,x,hj,hx⟩:=QC c1;have hj':Qo w.s w.e.Id=(j:Int):=hj;have gx:=Z6 (f:=Region.enc) hx;have hE:WM w.s (j:Int)=x.Ended:=by simp [WM,hx]
  have hn:((j:Int)).toNat=j:=rfl;have hch:=Z4b w w.s.Regions j x hx (by have:=hw.s.regions;omega)
  rw [hj'] at hr d1 ⊢;rw [hE,hn];cases c2:x.Ended==-1 with
  | true=>
   refine ⟨fun _=>⟨_,[.row 1 [.ptr 2 0 0 1],.row 1 [.str w.e.Id]],by simp only [go_sem,qy,qq,qv,qk,reduceIte,s48p2,wH,shT,Hu,hr,d1,gx,Region.enc,NL.enc,c2,hch,h0,h1];rfl,by simp only [go_sem,qy]⟩,fun h=>(by cases h)⟩
  | false=>
   refine ⟨fun h=>(by cases h),fun _=>?_⟩
   simp only [go_sem,qy,qq,qv,qk,reduceIte,s48p2,wH,shT,hr,d1,gx,Region.enc,NL.enc,c2,h0,h1]
theorem Z4h (o0 o1:AObj) (h0:∀ n,Zj n o0=true) (h1:∀ n,Zj n o1=true) (w:Wk) (hw:WkS w) (v:AV):
 (Kh w.s w.e.Id=true→∃ fr' t,Zb rE s48p3 [(1,.ptr 3 0 0 1),(3,.ptr 4 0 0 1),(4,v),(32,.bool false)] (wH o0 o1 w++shT w)=some (.ret,fr',wH o0 o1 (bif Kf w.s w.e.Id then w else Hv w (ZK w.s.Streets (ZL w.s w.e.Id).toNat (UM w.e)))++t)∧get fr' 2=I (bif Kf w.s w.e.Id then 11 else 0))∧
 (Kh w.s w.e.Id=false→Zb rE s48p3 [(1,.ptr 3 0 0 1),(3,.ptr 4 0 0 1),(4,v),(32,.bool false)] (wH o0 o1 w++shT w)=some (.normal,[(1,.ptr 3 0 0 1),(3,.ptr 4 0 0 1),(5,I (ZL w.s w.e.Id)),(64,.bool false)],wH o0 o1 w++shT w)):=by
 have hr:=K7 w.s hw.s w.e.Id;have ho:=Z4f w.s hw.s w.e.Id;unfold Kh;cases c1:decide (ZL w.s w.e.Id < 0) with
 | true=>
  have d1:=JE c1;refine ⟨fun h=>(by cases h),fun _=>?_⟩
  simp only [go_sem,qy,qq,qv,qk,reduceIte,s48p3,wH,shT,hr,d1]
 | false=>
  have d1:=K9 c1;obtain ⟨j,x,hj,hx⟩:=QC c1;have hj':ZL w.s w.e.Id=(j:Int):=hj;have gx:=Z6 (f:=Street.enc) hx;have hE:QF w.s (j:Int)=x.Ended:=by simp [QF,hx]
  have hn:((j:Int)).toNat=j:=rfl;have hch:=Z4c w w.s.Streets j x hx (by have:=hw.s.streets;omega)
  rw [hj'] at hr d1 ⊢;rw [hE,hn];cases c2:x.Ended==-1 with
  | true=>
   refine ⟨fun _=>?_,fun h=>(by cases h)⟩
   cases c5003:Kf w.s w.e.Id with
   | true=>
    rw [c5003] at ho;exact ⟨_,[.row 1 [.ptr 2 0 0 1],.row 1 [.str w.e.Id]],by simp only [go_sem,qy,qq,qv,qk,reduceIte,s48p3,wH,shT,hr,d1,gx,Street.enc,NL.enc,c2,ho,h0,h1];rfl,by simp only [go_sem,qy]⟩
   | false=>
    rw [c5003] at ho;exact ⟨_,[.row 1 [.ptr 2 0 0 1],.row 1 [.str w.e.Id]],by simp only [go_sem,qy,qq,qv,qk,reduceIte,s48p3,wH,shT,Hv,hr,d1,gx,Street.enc,NL.enc,c2,ho,hch,h0,h1];rfl,by simp only [go_sem,qy]⟩
  | false=>
   refine ⟨fun h=>(by cases h),fun _=>?_⟩
   simp only [go_sem,qy,qq,qv,qk,reduceIte,s48p3,wH,shT,hr,d1,gx,Street.enc,NL.enc,c2,h0,h1]
theorem Z4i (o0 o1:AObj) (h0:∀ n,Zj n o0=true) (h1:∀ n,Zj n o1=true) (w:Wk) (hw:WkS w) (v:AV):
 (Ki w.s w.e.Id=true→∃ fr' t,Zb rE s48p4 [(1,.ptr 3 0 0 1),(3,.ptr 4 0 0 1),(5,v),(64,.bool false)] (wH o0 o1 w++shT w)=some (.ret,fr',wH o0 o1 (Qf w (Zn w.s w.e.Id).toNat ⟨false,[]⟩)++t)∧get fr' 2=I 0)∧
 (Ki w.s w.e.Id=false→Zb rE s48p4 [(1,.ptr 3 0 0 1),(3,.ptr 4 0 0 1),(5,v),(64,.bool false)] (wH o0 o1 w++shT w)=some (.normal,[(1,.ptr 3 0 0 1),(3,.ptr 4 0 0 1),(6,I (Zn w.s w.e.Id)),(103,.bool false)],wH o0 o1 w++shT w)):=by
 have hr:=find_ok w.s hw.s w.e.Id;unfold Ki;cases c1:decide (Zn w.s w.e.Id < 0) with
 | true=>
  have d1:=JE c1;refine ⟨fun h=>(by cases h),fun _=>?_⟩
  simp only [go_sem,qy,qq,qv,qk,reduceIte,s48p4,wH,shT,hr,d1]
 | false=>
  have d1:=K9 c1;obtain ⟨j,x,hj,hx⟩:=QC c1;have hj':Zn w.s w.e.Id=(j:Int):=hj;have gx:=Z6 (f:=Door.enc) hx;have hE:QN w.s (j:Int)=x.Ended:=by simp [QN,hx]
  have hn:((j:Int)).toNat=j:=rfl;have he:=Hq o0 o1 h0 h1 ⟨false,[]⟩ w hw.s.units (by have:=hw.s.doors;omega) j x hx [.row 1 [.ptr 2 0 0 1],.row 1 [.str w.e.Id]] (Or.inr ⟨_,_,rfl,FE,fun n _=>rfl⟩)
  rw [hj'] at hr d1 ⊢;rw [hE,hn];cases c2:x.Ended==-1 with
  | true=>
   generalize Qf w j ⟨false,[]⟩=W2 at he ⊢;simp only [wH,ZOa,ZOl,ZOy] at he;exact ⟨fun _=>⟨_,[.row 1 [.ptr 2 0 0 1],.row 1 [.str w.e.Id]],by simp only [go_sem,qy,qq,qv,qk,reduceIte,s48p4,wH,shT,hr,d1,gx,Door.enc,NL.enc,c2,he,h0,h1];rfl,by simp only [go_sem,qy]⟩,fun h=>(by cases h)⟩
  | false=>
   refine ⟨fun h=>(by cases h),fun _=>?_⟩
   simp only [go_sem,qy,qq,qv,qk,reduceIte,s48p4,wH,shT,hr,d1,gx,Door.enc,NL.enc,c2,h0,h1]
theorem Z4j (o0 o1:AObj) (h0:∀ n,Zj n o0=true) (h1:∀ n,Zj n o1=true) (w:Wk) (hw:WkS w) (v:AV):
 (UO w.s w.e.Id=true→∃ fr' t,Zb rE s48p5 [(1,.ptr 3 0 0 1),(3,.ptr 4 0 0 1),(6,v),(103,.bool false)] (wH o0 o1 w++shT w)=some (.ret,fr',wH o0 o1 (Qx w (ZK w.s.Units (Wf w.s w.e.Id).toNat (UN w.e)))++t)∧get fr' 2=I 0)∧
 (UO w.s w.e.Id=false→Zb rE s48p5 [(1,.ptr 3 0 0 1),(3,.ptr 4 0 0 1),(6,v),(103,.bool false)] (wH o0 o1 w++shT w)=some (.normal,[(1,.ptr 3 0 0 1),(3,.ptr 4 0 0 1),(7,I (Wf w.s w.e.Id)),(126,.bool false)],wH o0 o1 w++shT w)):=by
 have hr:=Z2Q w.s hw.s w.e.Id;unfold UO;cases c1:decide (Wf w.s w.e.Id < 0) with
 | true=>
  have d1:=JE c1;refine ⟨fun h=>(by cases h),fun _=>?_⟩
  simp only [go_sem,qy,qq,qv,qk,reduceIte,s48p5,wH,shT,hr,d1]
 | false=>
  have d1:=K9 c1;obtain ⟨j,x,hj,hx⟩:=QC c1;have hj':Wf w.s w.e.Id=(j:Int):=hj;have gx:=Z6 (f:=Unit'.enc) hx;have hE:NW w.s (j:Int)=x.Ended:=by simp [NW,hx]
  have hn:((j:Int)).toNat=j:=rfl;have hch:=Z4d w w.s.Units j x hx (by have:=hw.s.units;omega)
  rw [hj'] at hr d1 ⊢;rw [hE,hn];cases c2:x.Ended==-1 with
  | true=>
   refine ⟨fun _=>⟨_,[.row 1 [.ptr 2 0 0 1],.row 1 [.str w.e.Id]],by simp only [go_sem,qy,qq,qv,qk,reduceIte,s48p5,wH,shT,Qx,hr,d1,gx,Unit'.enc,c2,hch,h0,h1];rfl,by simp only [go_sem,qy]⟩,fun h=>(by cases h)⟩
  | false=>
   refine ⟨fun h=>(by cases h),fun _=>?_⟩
   simp only [go_sem,qy,qq,qv,qk,reduceIte,s48p5,wH,shT,hr,d1,gx,Unit'.enc,c2,h0,h1]
def Hw (w:Wk):Int:=
 bif Kg w.s w.e.Id then 0 else bif Kh w.s w.e.Id then (bif Kf w.s w.e.Id then 11 else 0) else bif Ki w.s w.e.Id then 0 else bif UO w.s w.e.Id then 0
 else bif twB w w.e.Id&&decide (Y1 w.s w.e.Id < 0) then 11 else 10
def Hy (w:Wk):Wk:=
 bif Kg w.s w.e.Id then Hu w (ZK w.s.Regions (Qo w.s w.e.Id).toNat (UL w.e))
 else bif Kh w.s w.e.Id then Hv w (ZK w.s.Streets (ZL w.s w.e.Id).toNat (UM w.e))
 else bif Ki w.s w.e.Id then Qf w (Zn w.s w.e.Id).toNat ⟨false,[]⟩
 else Qx w (ZK w.s.Units (Wf w.s w.e.Id).toNat (UN w.e))
theorem Z4k (o0 o1:AObj) (h0:∀ n,Zj n o0=true) (h1:∀ n,Zj n o1=true) (w:Wk) (hw:WkS w):∃ t,fnV rE 48 [.ptr 2 0 0 1] (wH o0 o1 w)=some (I (Hw w),wH o0 o1 (bif Hw w==0 then Hy w else w)++t):=by
 have z10:((10:Int)==0)=false:=rfl;have z11:((11:Int)==0)=false:=rfl;have z0:((0:Int)==0)=true:=rfl;have hR:=Z4g o0 o1 h0 h1 w hw;have hS:=Z4h o0 o1 h0 h1 w hw (I (Qo w.s w.e.Id));have hD:=Z4i o0 o1 h0 h1 w hw (I (ZL w.s w.e.Id));have hU:=Z4j o0 o1 h0 h1 w hw (I (Zn w.s w.e.Id));have htw:=Wj w hw w.e.Id;have hb:=Hb w.s hw.s w.e.Id;simp only [wH,shT,ZOa,ZOl] at hR hS hD hU;rw [Q6 (f:=48) (c:=c48) rfl rfl,c48_eq];unfold Hw Hy;cases c1:Kg w.s w.e.Id with
 | true=>
  obtain ⟨fr',t,h2,h3⟩:=hR.1 c1;refine ⟨t,?_⟩;generalize Hu w (ZK w.s.Regions (Qo w.s w.e.Id).toNat (UL w.e))=W at h2 ⊢;simp only [go_sem,qy,qq,qv,s48p0,s48p1,wH,h2,h3,z0]
 | false=>
 have h2:=hR.2 c1;cases c2:Kh w.s w.e.Id with
 | true=>
  obtain ⟨fr',t,h3,h4⟩:=hS.1 c2;refine ⟨t,?_⟩;cases c5003:Kf w.s w.e.Id with
  | true=>
   rw [c5003] at h3 h4;simp only [cond_true] at h3 h4;simp only [go_sem,qy,qq,qv,s48p0,s48p1,wH,h2,h3,h4,z11]
  | false=>
   rw [c5003] at h3 h4;simp only [cond_false] at h3 h4;generalize Hv w (ZK w.s.Streets (ZL w.s w.e.Id).toNat (UM w.e))=W at h3 ⊢;simp only [go_sem,qy,qq,qv,s48p0,s48p1,wH,h2,h3,h4,z0]
 | false=>
 have h3:=hS.2 c2;cases c5003:Ki w.s w.e.Id with
 | true=>
  obtain ⟨fr',t,h4,h5⟩:=hD.1 c5003;refine ⟨t,?_⟩;generalize Qf w (Zn w.s w.e.Id).toNat ⟨false,[]⟩=W at h4 ⊢;simp only [go_sem,qy,qq,qv,s48p0,s48p1,wH,h2,h3,h4,h5,z0]
 | false=>
 have h4:=hD.2 c5003;cases c5004:UO w.s w.e.Id with
 | true=>
  obtain ⟨fr',t,h5,h6⟩:=hU.1 c5004;refine ⟨t,?_⟩;generalize Qx w (ZK w.s.Units (Wf w.s w.e.Id).toNat (UN w.e))=W at h5 ⊢;simp only [go_sem,qy,qq,qv,s48p0,s48p1,wH,h2,h3,h4,h5,h6,z0]
 | false=>
 have h5:=hU.2 c5004;refine ⟨[.row 1 [.ptr 2 0 0 1],.row 1 [.str w.e.Id]],?_⟩;cases c5005:twB w w.e.Id with
 | false=>
  rw [c5005] at htw;simp only [go_sem,qy,qq,qv,s48p0,s48p1,s48p6,s48p7,wH,h2,h3,h4,h5,htw,z10]
 | true=>
 rw [c5005] at htw;cases c5006:decide (Y1 w.s w.e.Id < 0) with
 | true=>simp only [go_sem,qy,qq,qv,qk,reduceIte,s48p0,s48p1,s48p6,s48p7,wH,h2,h3,h4,h5,htw,hb,c5006,z11]
 | false=>simp only [go_sem,qy,qq,qv,qk,reduceIte,s48p0,s48p1,s48p6,s48p7,wH,h2,h3,h4,h5,htw,hb,c5006,z10]
end Go.AM
namespace Go.AM
open Go
def UP (n:HN) (x:Door):Door:={ x with Number:=n }
theorem Z4l (e:Ent) (l:List Door) (k:Nat) (x:Door) (hx:l[k]? = some x) (hle:l.length≤1000000):pfn rE 95 [.isl false false 16 (l.map Door.enc),I k,.clo (.func 96) [] [.iptr true [.str e.Id,.int .i64 e.Number.N,.str e.Number.Letter,.int .i64 e.Number.Num,.int .i64 e.Number.Den,.int .i64 e.Point.X,.int .i64 e.Point.Y]]]=some (.isl false false 16 ((ZK l k (UP e.Number)).map Door.enc)):=by
 have hk:=Z7 hx;have hg:=Z6 (f:=Door.enc) hx;rw [YA hx,ZOw];refine Xk (sz:=16) (f:=164) rfl rfl rfl _ _ _ (.tup []) false k (by simpa using hk) (Xj (fun _=>rfl) _) (by simpa using hle) ?_ (by simp) ?_
 ·rw [Q6 (f:=96) rfl rfl];simp only [go_sem,qy,qq,qk,c96,beq_self_eq_true,hg,Door.enc,NL.enc,UP]
 ·rw [←ZOw];exact Zw (fun t=>rfl) _
def Kj (s:Sta) (x:Ent):Bool:=decide (Zn s x.Id < 0)
def Hz (w:Wk) (x:Ent):Bool:=QN w.s (Zn w.s x.Id) != -1||!Z3 (XP w.s (Zn w.s x.Id)) w.e.Id
theorem FH {g:Nat} {cap:List AV} {p:Ent→Bool} (l:List Ent) (hl:l.length≤1000) (ex:Bool) (hfz:∀ x∈l,Ql [] (x.enc::cap)=some (x.enc::cap)) (hcl:Ql [] [.isl false ex 7 (l.map Ent.enc),.clo (.func g) [] cap]=some [.isl false ex 7 (l.map Ent.enc),.clo (.func g) [] cap])
 (hp:∀ x∈l,pfn rE g (x.enc::cap)=some (.bool (p x))):pfn rE 93 [.isl false ex 7 (l.map Ent.enc),.clo (.func g) [] cap]=some (.bool (l.any p)):=by
 have h1:=FG (E:=rE) (f:=163) (sz:=7) (n:=some 7) (enc:=Ent.enc) (p:=p) (g:=g) (cap:=cap) rfl rfl l hfz (by omega) (fun x _=>x.el) hp false ex
 rw [Z5 (f:=93) rfl rfl,←Vg];unfold WG;simp only [go_sem,qy,qq,reduceIte,c93,h1,hcl]
abbrev JI (w:Wk):List AV:=[.iptr true [.iptr true (wkC w)]]
theorem ZDV (w:Wk) (x:Ent):Ql [] (x.enc::JI w)=some (x.enc::JI w):=GQ _ _ rfl (by simp [QJ,msz,Ent.enc])
theorem FJ (w:Wk) (g:Nat) (l:List Ent) (ex:Bool):Ql [] [.isl false ex 7 (l.map Ent.enc),.clo (.func g) [] (JI w)]=some [.isl false ex 7 (l.map Ent.enc),.clo (.func g) [] (JI w)]:=GQ _ _ rfl (by simp [QJ,msz])
theorem Z4m (w:Wk) (hw:WkS w):pfn rE 93 [.isl false w.e.Lst.ex 7 (w.e.Lst.l.map Ent.enc),.clo (.func 92) [] (JI w)]=some (.bool (w.e.Lst.l.any (Kj w.s))):=by
 refine FH _ (by have:=hw.e.lst;omega) _ (fun x _=>ZDV w x) (FJ w _ _ _) (fun x _=>?_)
 have hf:=find_ok w.s hw.s x.Id;rw [Z5 (f:=92) rfl rfl];unfold Kj;simp only [go_sem,qy,qq,qk,reduceIte,c92,Ent.enc,hf]
theorem Z4n (w:Wk) (hw:WkS w) (hb:w.e.Lst.l.any (Kj w.s)=false):pfn rE 93 [.isl false w.e.Lst.ex 7 (w.e.Lst.l.map Ent.enc),.clo (.func 94) [] (JI w)]=some (.bool (w.e.Lst.l.any (Hz w))):=by
 refine FH _ (by have:=hw.e.lst;omega) _ (fun x _=>ZDV w x) (FJ w _ _ _) (fun x hx=>?_)
 have hf:=find_ok w.s hw.s x.Id;rw [ZPb] at hb;have hb1:decide (Zn w.s x.Id < 0)=false:=by simpa [Kj] using hb x hx
 obtain ⟨j,y,hj,hy⟩:=QC hb1;have hj':Zn w.s x.Id=(j:Int):=hj;have gy:=Z6 (f:=Door.enc) hy;have hdE:QN w.s (j:Int)=y.Ended:=by simp [QN,hy]
 have hdS:XP w.s (j:Int)=y.Street:=by simp [XP,hy]
 unfold Hz;rw [hj'] at hf ⊢;rw [hdE,hdS,Z5 (f:=94) rfl rfl];cases c1:y.Ended != -1 with
 | true=>simp only [go_sem,qy,qq,qv,qk,reduceIte,c94,Ent.enc,hf,gy,Door.enc,NL.enc,c1]
 | false=>simp only [go_sem,qy,qq,qv,qk,reduceIte,c94,Ent.enc,hf,gy,Door.enc,NL.enc,c1]
def Kk (D:List Door) (id:Str):Int:=Zp (fun x:Door=>Z3 x.Id id) D 0
theorem NX {α β:Type} (f:α→β) (p:β→Bool):∀ (l:List α) (i:Int),Zp (fun x=>p (f x)) l i=Zp p (l.map f) i
 | [],_=>rfl
 | x::r,i=>by simp only [Zp,ZOb];rw [NX f p r]
theorem Z4o {D D':List Door} (h:D.map (·.Id)=D'.map (·.Id)) (id:Str):Kk D id=Kk D' id:=by
 unfold Kk;rw [NX (fun x:Door=>x.Id) (fun i=>Z3 i id),NX (fun x:Door=>x.Id) (fun i=>Z3 i id) D',h]
theorem FK {α β:Type} (g:α→β) (f:α→α) (h:∀ x,g (f x)=g x) (l:List α) (k:Nat):(ZK l k f).map g=l.map g:=by
 unfold ZK;cases hk:l[k]? with
 | none=>rfl
 | some x=>
  dsimp only;rw [ZOw,h];have hi:=Z7 hk;have:(l.map g)[k]'(by simpa using hi)=g x:=by
   rw [ZO6 hi] at hk;simp [Option.some.inj hk]
  rw [←this,List.set_getElem_self]
def Yn (D:List Door) (l:List Ent):Nat→List Door
 | 0=>D
 | i+1=>match l[i]? with
  | some x=>ZK (Yn D l i) (Kk (Yn D l i) x.Id).toNat (UP x.Number)
  | none=>Yn D l i
theorem HA (D:List Door) (l:List Ent):∀ i,(Yn D l i).map (·.Id)=D.map (·.Id)
 | 0=>rfl
 | i+1=>by
  rw [Yn];cases l[i]? with
  | none=>exact HA D l i
  | some x=>exact (FK (fun x:Door=>x.Id) (UP x.Number) (fun _=>rfl) _ _).trans (HA D l i)
theorem FL (D:List Door) (l:List Ent) (i:Nat):(Yn D l i).length=D.length:=by
 have:=congrArg List.length (HA D l i);simpa using this
theorem Z4p (o0 o1:AObj) (h0:∀ n,Zj n o0=true) (h1:∀ n,Zj n o1=true) (w:Wk) (hw:WkS w) (hb:w.e.Lst.l.any (Kj w.s)=false):
 ∃ fr',Zg rE [1,54,55,56] c44L0b [(1,.ptr 3 0 0 1),(54,.isl false w.e.Lst.ex 7 (w.e.Lst.l.map Ent.enc)),(55,I w.e.Lst.l.length),(56,.int .i64 0)] (wH o0 o1 w++[.row 1 [.ptr 2 0 0 1]]) =
  some (.exit 0,fr',wH o0 o1 (Ym w (Yn w.s.Doors w.e.Lst.l w.e.Lst.l.length))++[.row 1 [.ptr 2 0 0 1]]):=by
 have hl:=hw.e.lst;have hdoors:=hw.s.doors;have L:=Y8 (E:=rE) (live:=[1,54,55,56]) (b:=c44L0b) w.e.Lst.l.length
  (fun i=>[(1,.ptr 3 0 0 1),(54,.isl false w.e.Lst.ex 7 (w.e.Lst.l.map Ent.enc)),(55,I w.e.Lst.l.length),(56,I i)])
  (fun i=>wH o0 o1 (Ym w (Yn w.s.Doors w.e.Lst.l i))++[.row 1 [.ptr 2 0 0 1]]) (fun i=>rfl)
  (fun i hi=>by
   obtain ⟨x,hx⟩:∃ x,w.e.Lst.l[i]? = some x:=⟨_,ZO6 hi⟩;have hg:=Z6 (f:=Ent.enc) hx;have hi':=Zh hi;have hwr:=Zx (n:=i) (by omega)
   have hS:Yn w.s.Doors w.e.Lst.l (i+1)=ZK (Yn w.s.Doors w.e.Lst.l i) (Kk (Yn w.s.Doors w.e.Lst.l i) x.Id).toNat (UP x.Number):=by
    rw [Yn,hx]
   have hids:=Z4o (HA w.s.Doors w.e.Lst.l i) x.Id;have hlen:=FL w.s.Doors w.e.Lst.l i;rw [hS];generalize Yn w.s.Doors w.e.Lst.l i=D at hids hlen ⊢;have hb2:=hb;rw [ZPb] at hb2;have hb1:decide (Kk D x.Id < 0)=false:=by
    rw [hids];have:=hb2 x (ZOh hx);rw [ZPU] at this;exact this
   obtain ⟨j,y,hj,hy⟩:=QC hb1;have hj':Kk D x.Id=(j:Int):=hj;have hf:=find_ok (Ym w D).s ⟨hw.s.regions,hw.s.streets,hw.s.buildings,by show D.length≤1000;omega,hw.s.units,hw.s.merged,hw.s.rulings⟩ x.Id
   have hf2:Zn (Ym w D).s x.Id=(j:Int):=hj;have hn:((j:Int)).toNat=j:=rfl;have hch:=Z4l x D j y hy (by omega)
   rw [hf2] at hf;rw [hj',hn];simp only [Ym] at hf ⊢;refine ⟨[(1,.ptr 3 0 0 1),(54,.isl false w.e.Lst.ex 7 (w.e.Lst.l.map Ent.enc)),(55,I w.e.Lst.l.length),(56,I (i+1:Nat))],?_,rfl⟩;simp only [go_sem,qy,qq,qv,qk,reduceIte,c44L0b,wH,hg,hi',hwr,hf,hch,Ent.enc,h0,h1])
  (e:=.exit 0) (fr:=[(1,.ptr 3 0 0 1),(54,.isl false w.e.Lst.ex 7 (w.e.Lst.l.map Ent.enc)),(55,I w.e.Lst.l.length),(56,I w.e.Lst.l.length)]) (h:=wH o0 o1 (Ym w (Yn w.s.Doors w.e.Lst.l w.e.Lst.l.length))++[.row 1 [.ptr 2 0 0 1]])
  (by simp only [go_sem,qy,qq,qv,reduceIte,c44L0b,ZG,wH,Ym,h0,h1]) (by simp)
 exact ⟨_,L⟩
def HD (w:Wk):Int:=
 bif decide (ZL w.s w.e.Id < 0)||w.e.Lst.l.any (Kj w.s) then 10
 else bif QF w.s (ZL w.s w.e.Id) != -1||w.e.Lst.l.any (Hz w) then 11 else 0
def NY (w:Wk):Wk:=Ym w (Yn w.s.Doors w.e.Lst.l w.e.Lst.l.length)
theorem Z4q (o0 o1:AObj) (h0:∀ n,Zj n o0=true) (h1:∀ n,Zj n o1=true) (w:Wk) (hw:WkS w):∃ t,fnV rE 44 [.ptr 2 0 0 1] (wH o0 o1 w)=some (I (HD w),wH o0 o1 (bif HD w==0 then NY w else w)++t):=by
 have hs:=K7 w.s hw.s w.e.Id;have hb1:=Z4m w hw;have z10:((10:Int)==0)=false:=rfl;have z11:((11:Int)==0)=false:=rfl;have z0:((0:Int)==0)=true:=rfl;rw [Q6 (f:=44) rfl rfl];unfold HD;refine ⟨[.row 1 [.ptr 2 0 0 1]],?_⟩;cases c1:decide (ZL w.s w.e.Id < 0) with
 | true=>simp only [go_sem,qy,qq,qv,qk,reduceIte,c44,wH,hs,c1,z10]
 | false=>
 cases c2:w.e.Lst.l.any (Kj w.s) with
 | true=>
  rw [c2] at hb1;simp only [go_sem,qy,qq,qv,qk,reduceIte,c44,wH,hs,c1,hb1,z10]
 | false=>
 obtain ⟨f1,l1⟩:=Z4p o0 o1 h0 h1 w hw c2;have hb2:=Z4n w hw c2;rw [c2] at hb1;obtain ⟨j,x,hj,hx⟩:=QC c1;have hj':ZL w.s w.e.Id=(j:Int):=hj;have gx:=Z6 (f:=Street.enc) hx;have hE:QF w.s (j:Int)=x.Ended:=by simp [QF,hx]
 rw [hj'] at hs c1 ⊢;rw [hE];cases c5003:x.Ended != -1 with
 | true=>simp only [go_sem,qy,qq,qv,qk,reduceIte,c44,wH,hs,c1,hb1,gx,Street.enc,NL.enc,c5003,z11]
 | false=>
 cases c5004:w.e.Lst.l.any (Hz w) with
 | true=>
  rw [c5004] at hb2;simp only [go_sem,qy,qq,qv,qk,reduceIte,c44,wH,hs,c1,hb1,gx,Street.enc,NL.enc,c5003,hb2,z11]
 | false=>
  rw [c5004] at hb2;unfold NY;generalize Ym w (Yn w.s.Doors w.e.Lst.l w.e.Lst.l.length)=W at l1 ⊢;simp only [wH,ZOa,ZOl] at l1;simp only [go_sem,qy,qq,qv,qk,reduceIte,c44,c44L0,wH,hs,c1,hb1,gx,Street.enc,NL.enc,c5003,hb2,l1,z0,h0,h1]
end Go.AM
namespace Go.AM
open Go
theorem c21_eq:c21=.seq s21p0 (.seq s21p1 (.seq s21p2 (.seq s21p3 (.seq s21p4 (.seq s21p5 (.seq s21p6 .ret)))))):=rfl
structure StF (s:Sta):Prop where
 e:StE s
 regions:s.Regions.length≤500
 streets:s.Streets.length≤500
 buildings:s.Buildings.length≤500
 doors:s.Doors.length≤500
 units:s.Units.length≤500
 merged:s.Merged.length≤500
 rulings:s.Rulings.length≤500
def wk0 (s:Sta) (a:Int) (e:Event):Wk:=⟨s,a,e,Qp s⟩
theorem Z4r (s:Sta):(Qp s).length=s.Regions.length+(s.Streets.length+(s.Buildings.length+(s.Doors.length+s.Units.length))):=by simp [Qp]
theorem Z4s (s:Sta) (hs:StF s) (a:Int) (e:Event) (he:EvS e):WkS (wk0 s a e):=⟨hs.e.sizes,he,by
 have h1:=hs.regions;have h2:=hs.streets;have h3:=hs.buildings;have h4:=hs.doors;have h5:=hs.units;show (Qp s).length≤100000
 rw [Z4r];omega⟩
def Q1 (w:Wk):Int:=
 match w.e.Kind.toNat with
 | 1=>Hi w
 | 2=>bif twB w w.e.Id then 8 else 0
 | 3=>Hk w
 | 4=>Hm w
 | 5=>bif twB w w.e.Id then 8 else 0
 | 6=>JD w
 | 7=>JB w
 | 8=>HD w
 | 9=>Ka w
 | 10=>Kc w
 | 11=>Hs w
 | 12=>Hw w
 | 13=>Hn w
 | 14=>0
 | _=>bif twB w w.e.Id then 8 else 0
def stepW (w:Wk):Wk:=
 match w.e.Kind.toNat with
 | 1=>Hj w
 | 2=>Jz w
 | 3=>Hl w
 | 4=>exW w
 | 5=>JA w
 | 6=>Qw w (UE w)
 | 7=>JC w
 | 8=>NY w
 | 9=>Kb w
 | 10=>Kd w
 | 11=>Ht w
 | 12=>Hy w
 | 13=>Ho w
 | 14=>Hh w
 | _=>Qw w (UD w)
def steps:List AV:=[.nilfn,.clo (.func 37) [] [],.clo (.func 38) [] [],.clo (.func 39) [] [],.clo (.func 40) [] [],.clo (.func 41) [] [],.clo (.func 42) [] [],.clo (.func 43) [] [],.clo (.func 44) [] [],.clo (.func 45) [] [],.clo (.func 46) [] [],.clo (.func 47) [] [],.clo (.func 48) [] [],.clo (.func 49) [] [],.clo (.func 50) [] [],.clo (.func 51) [] []]
abbrev HE:List AV:=[.isl false false 6 [],.isl false false 5 [],.isl false false 4 [],.isl false false 16 [],.isl false false 6 [],.isl false false 2 [],.isl false false 2 []]
abbrev apH (w:Wk):Hp:=wH (.row 7 [.agg HE]) (.row 16 [.agg steps]) w
theorem NZ {w w':Wk} {o0 o1:AObj} {f:Nat} {b:Bool} (h:∃ t,fnV rE f [.ptr 2 0 0 1] (wH o0 o1 w)=some (I (bif b then 8 else 0),wH o0 o1 (bif b then w else w')++t)):
 ∃ t,fnV rE f [.ptr 2 0 0 1] (wH o0 o1 w)=some (I (bif b then 8 else 0),wH o0 o1 (bif (bif b then (8:Int) else 0)==0 then w' else w)++t):=by
 cases b<;>exact h
theorem step_ok (o0 o1:AObj) (h0:∀ n,Zj n o0=true) (h1:∀ n,Zj n o1=true) (w:Wk) (hw:WkS w) (k:Nat) (hk:w.e.Kind=(k:Int)) (hk1:1≤k) (hk2:k≤15) (hp:WK w.s=true) (hn:k=10→0 < w.e.Ids.l.length):
 ∃ g,steps[k]? = some (.clo (.func g) [] [])∧∃ t,fnV rE g [.ptr 2 0 0 1] (wH o0 o1 w)=some (I (Q1 w),wH o0 o1 (bif Q1 w==0 then stepW w else w)++t):=by
 have hkk:w.e.Kind.toNat=k:=by rw [hk];rfl
 have z0:((0:Int)==0)=true:=rfl;unfold Q1 stepW;rw [hkk];rcases (by omega:k=1∨k=2∨k=3∨k=4∨k=5∨k=6∨k=7∨k=8∨k=9∨k=10∨k=11∨k=12∨k=13∨k=14∨k=15) with rfl | rfl | rfl | rfl | rfl | rfl | rfl | rfl | rfl | rfl | rfl | rfl | rfl | rfl | rfl
 ·exact ⟨37,rfl,Z3H o0 o1 h0 h1 w hw⟩
 ·exact ⟨38,rfl,NZ (Z3w o0 o1 w hw)⟩
 ·exact ⟨39,rfl,Z3I o0 o1 h0 h1 w hw⟩
 ·exact ⟨40,rfl,Z3J o0 o1 h0 h1 w hw⟩
 ·exact ⟨41,rfl,NZ (Z3x o0 o1 w hw)⟩
 ·exact ⟨42,rfl,Z3B o0 o1 h0 h1 w hw⟩
 ·exact ⟨43,rfl,Z3z o0 o1 w hw⟩
 ·exact ⟨44,rfl,Z4q o0 o1 h0 h1 w hw⟩
 ·exact ⟨45,rfl,Z3X o0 o1 h0 h1 w hw⟩
 ·exact ⟨46,rfl,Z47 o0 o1 h0 h1 w hw (hn rfl)⟩
 ·exact ⟨47,rfl,Z4a o0 o1 h0 h1 w hw⟩
 ·exact ⟨48,rfl,Z4k o0 o1 h0 h1 w hw⟩
 ·exact ⟨49,rfl,Z3M o0 o1 w hw hp⟩
 ·exact ⟨50,rfl,Z3y o0 o1 w hw⟩
 ·exact ⟨51,rfl,NZ (Z3A o0 o1 h0 h1 w hw)⟩
def Gr (s s':Sta):Prop:=s'.Regions.length≤s.Regions.length+200∧s'.Streets.length≤s.Streets.length+200∧s'.Buildings.length≤s.Buildings.length+200∧s'.Doors.length≤s.Doors.length+200∧s'.Units.length≤s.Units.length+200∧s'.Merged.length≤s.Merged.length+200∧s'.Rulings.length≤s.Rulings.length+200
structure Same (s s':Sta):Prop where
 regions:s'.Regions.length=s.Regions.length
 streets:s'.Streets.length=s.Streets.length
 buildings:s'.Buildings.length=s.Buildings.length
 doors:s'.Doors.length=s.Doors.length
 units:s'.Units.length=s.Units.length
 merged:s'.Merged.length=s.Merged.length
 rulings:s'.Rulings.length=s.Rulings.length
theorem Same.refl (s:Sta):Same s s:=⟨rfl,rfl,rfl,rfl,rfl,rfl,rfl⟩
theorem Same.trans {a b c:Sta} (h:Same a b) (k:Same b c):Same a c:=⟨k.1.trans h.1,k.2.trans h.2,k.3.trans h.3,k.4.trans h.4,k.5.trans h.5,k.6.trans h.6,k.7.trans h.7⟩
theorem Gr.same {a b c:Sta} (h:Gr a b) (k:Same b c):Gr a c:=by
 obtain ⟨h1,h2,h3,h4,h5,h6,h7⟩:=h;exact ⟨by rw [k.1];exact h1,by rw [k.2];exact h2,by rw [k.3];exact h3,by rw [k.4];exact h4,by rw [k.5];exact h5,by rw [k.6];exact h6,by rw [k.7];exact h7⟩
theorem Same.gr {a b:Sta} (k:Same a b):Gr a b:=⟨by rw [k.1];omega,by rw [k.2];omega,by rw [k.3];omega,by rw [k.4];omega,by rw [k.5];omega,by rw [k.6];omega,by rw [k.7];omega⟩
theorem HF (w:Wk) (k:Nat) (a:NL Str):Same w.s (Qf w k a).s:=by
 unfold Qf;split
 ·exact ⟨rfl,rfl,rfl,Xm _ _ _,by simp [Qx,UH],rfl,rfl⟩
 ·exact Same.refl _
theorem Z4t (l:List Int) (a:NL Str):∀ w:Wk,Same w.s (Yg w l a).s:=by
 induction l with
 | nil=>intro w;exact Same.refl _
 | cons x r ih=>intro w;rw [UJ];exact (HF _ _ _).trans (ih _)
theorem FM (w:Wk) (l:List Door):∀ i,Same w.s (Y6 w l i).s
 | 0=>Same.refl _
 | i+1=>by
  have ih:=FM w l i;rw [Y6];cases l[i]? with
  | none=>exact ih
  | some x=>
   dsimp only;cases NV w.e.Id x with
   | false=>exact ih
   | true=>exact ih.trans (HF _ _ _)
theorem M0 (w:Wk) (d:Door):Gr w.s (Qw w d).s:=by
 unfold Gr Qw;simp
theorem Z4u (w:Wk) (hl:w.e.Lst.l.length≤100):Gr w.s (stepW w).s:=by
 unfold stepW;split
 ·unfold Hj;cases decide (Qo w.s w.e.Id < 0) with
  | true=>simp [Gr]
  | false=>simp [Gr,Xm]
 ·simp [Gr,Jz]
 ·unfold Hl;cases decide (Qo w.s w.e.Id ≥ 0) with
  | true=>simp [Gr,Xm]
  | false=>simp [Gr,Xm]
 ·simp [Gr,exW,Xm]
 ·simp [Gr,JA]
 ·exact M0 _ _
 ·simp [Gr,JC]
 ·exact Same.gr ⟨rfl,rfl,rfl,FL _ _ _,rfl,rfl,rfl⟩
 ·unfold Kb;split
  ·refine Gr.same ?_ (HF _ _ _);unfold Gr Y5;simp;omega
  ·exact (Same.refl _).gr
 ·unfold Kd;split
  ·exact Gr.same (M0 _ _) (Z4t _ _ _)
  ·exact (Same.refl _).gr
 ·unfold Ht;refine Same.gr (Same.trans (b:=(JH w (ZK w.s.Buildings (Y1 w.s w.e.Id).toNat (Ke w.e))).s) ⟨rfl,rfl,Xm _ _ _,rfl,rfl,rfl,rfl⟩ (FM _ _ _))
 ·unfold Hy;cases Kg w.s w.e.Id with
  | true=>exact Same.gr ⟨Xm _ _ _,rfl,rfl,rfl,rfl,rfl,rfl⟩
  | false=>
  cases Kh w.s w.e.Id with
  | true=>exact Same.gr ⟨rfl,Xm _ _ _,rfl,rfl,rfl,rfl,rfl⟩
  | false=>
  cases Ki w.s w.e.Id with
  | true=>exact Same.gr (HF _ _ _)
  | false=>exact Same.gr ⟨rfl,rfl,rfl,rfl,Xm _ _ _,rfl,rfl⟩
 ·simp [Gr,Ho]
 ·simp [Gr,Hh]
 ·exact M0 _ _
theorem FN (s:Sta) (hs:StF s) (a:Int) (e:Event) (he:EvS e):StS (stepW (wk0 s a e)).s:=by
 obtain ⟨h1,h2,h3,h4,h5,h6,h7⟩:=Z4u (wk0 s a e) he.lst;have k1:=hs.regions;have k2:=hs.streets;have k3:=hs.buildings;have k4:=hs.doors;have k5:=hs.units;have k6:=hs.merged;have k7:=hs.rulings;have e0:(wk0 s a e).s=s:=rfl;rw [e0] at h1 h2 h3 h4 h5 h6 h7;exact ⟨by omega,by omega,by omega,by omega,by omega,by omega,by omega⟩
def Yh:Sta:=⟨[],[],[],[],[],[],[]⟩
def okB (s:Sta) (a:Int) (e:Event):Bool:=Jx s&&(QM a 0 0&&Q9 e)
def Qk (s:Sta) (a:Int) (e:Event):Int:=
 bif okB s a e then (bif Q1 (wk0 s a e)==0 then (bif Wh (stepW (wk0 s a e)).s.Doors then 0 else 8) else Q1 (wk0 s a e)) else 1
def ZP (s:Sta) (a:Int) (e:Event):Sta:=
 bif okB s a e&&(Q1 (wk0 s a e)==0&&Wh (stepW (wk0 s a e)).s.Doors) then (stepW (wk0 s a e)).s else Yh
abbrev evL (e:Event):List AV:=[I e.Kind,I e.Day,I e.A,I e.B,I e.Office,.str e.Id,.str e.Other,.str e.Text,.isl false e.Ids.ex 1 (e.Ids.l.map encS),.isl false e.Names.ex 3 (e.Names.l.map Nm.enc),
 I e.Number.N,.str e.Number.Letter,I e.Number.Num,I e.Number.Den,I e.Point.X,I e.Point.Y,.isl false e.Path.ex 2 (e.Path.l.map Pt.enc),.isl false e.Lst.ex 7 (e.Lst.l.map Ent.enc)]
theorem Z4v (w:Wk) (hw:WkS w) (k:Nat) (hk:w.e.Kind=(k:Int)) (hk1:1≤k) (hk2:k≤15) (hp:WK w.s=true) (hn:k=10→0 < w.e.Ids.l.length):
 ((Q1 w==0)=true→Zb rE s21p4 [(5,.iptr false (evL w.e)),(6,.ptr 0 0 0 1),(8,.ptr 1 0 0 1),(9,.ptr 2 0 0 1)] (apH w)=some (.normal,[(40,.bool false),(39,I 0),(6,.ptr 0 0 0 1),(9,.ptr 2 0 0 1),(10,I 0)],apH (stepW w)))∧
 ((Q1 w==0)=false→∃ fr' t,Zb rE s21p4 [(5,.iptr false (evL w.e)),(6,.ptr 0 0 0 1),(8,.ptr 1 0 0 1),(9,.ptr 2 0 0 1)] (apH w)=some (.ret,fr',apH w++t)∧get fr' 6=.ptr 0 0 0 1∧get fr' 7=I (Q1 w)):=by
 have h0:∀ n,Zj n (.row 7 [.agg HE])=true:=fun n=>rfl
 have h1:∀ n,Zj n (.row 16 [.agg steps])=true:=fun n=>rfl
 have hlt:(0≤(k:Int)∧(k:Int) < ((16:Nat):Int))=True:=by simp;omega
 have hkn:((k:Int)).toNat=k:=rfl;obtain ⟨g,hg,t,hs⟩:=step_ok _ _ h0 h1 w hw k hk hk1 hk2 hp hn;have htk:takeC none (List.drop k steps)=some (.clo (.func g) [] []):=by
  have hl:k < steps.length:=Z7 hg;rw [ZPo hl,N3];rw [ZO6 hl] at hg;exact hg
 have nz:(Q1 w != 0) = !(Q1 w==0):=rfl;cases c:Q1 w==0 with
 | true=>
  refine ⟨fun _=>?_,fun h=>(by cases h)⟩
  have e0:Q1 w=0:=by simpa using c
  rw [c,cond_true] at hs;simp only [wH,ZOa,ZOl] at hs;rw [e0] at hs;have n0:((0:Int) != 0)=false:=rfl;simp only [go_sem,qy,qq,qv,s21p4,apH,wH,hk,hlt,hkn,if_true,ZOf,ZOM,htk,hs,n0,h0,h1]
 | false=>
  refine ⟨fun h=>(by cases h),fun _=>?_⟩
  rw [c,cond_false] at hs;simp only [wH,ZOa,ZOl] at hs;rw [c] at nz;exact ⟨_,[],by simp only [go_sem,qy,qq,qv,qk,s21p4,apH,wH,hk,hlt,hkn,if_true,ZOf,ZOM,htk,hs,nz,h0,h1,ZOc];rfl,by simp only [go_sem,qy],by simp only [go_sem,qy]⟩
theorem FO (e:Event) (hf:Q9 e=true) (hk:e.Kind=((10:Nat):Int)):0 < e.Ids.l.length:=by
 simp only [Q9,ZO2] at hf;have h:=hf.2.2.2.2;unfold Q8 at h;rw [hk] at h;have h2:(ZD e.Ids.l.length 2 8&&(Qv (e.Id::e.Ids.l)&&(YO e.Number&&gOn e.Point)))=true:=h;rw [ZO2] at h2;have h3:=h2.1;unfold ZD at h3;rw [ZO2] at h3;have:=of_decide_eq_true h3.1;omega
theorem Z4w (e:Event) (hf:Q9 e=true):∃ k:Nat,e.Kind=(k:Int)∧1≤k∧k≤15:=by
 simp only [Q9,ZO2] at hf;have h:=hf.1;unfold ZD at h;rw [ZO2] at h;have h1:=of_decide_eq_true h.1;have h2:=of_decide_eq_true h.2;exact ⟨e.Kind.toNat,by omega,by omega,by omega⟩
theorem Z4x (s:Sta) (h:Jx s=true):WK s=true:=by
 simp only [Jx,ZO2] at h;exact h.2.2.2.2.2.2.2
theorem JJ (s:Sta) (hs:StF s) (a:Int) (e:Event) (he:EvS e):pfn rE 21 [stA s,I a,evA e]=some (.tup [stA (ZP s a e),I (Qk s a e)]):=by
 have hP:=Z3i s hs.e;have hO:=Qc a 0 0;have hF:=NH e he;have hI:=Fd s hs.e.sizes;have hcI:Z4 ((Qp s).map encS)=true:=Zw (fun t=>rfl) _
 rw [Z5 (f:=21) (c:=c21) rfl rfl,c21_eq];have z0:(stA Yh)=.agg HE:=rfl;cases c:okB s a e with
 | false=>
  have e1:Qk s a e=1:=by unfold Qk;rw [c];rfl
  have e2:ZP s a e=Yh:=by unfold ZP;rw [c];rfl
  rw [e1,e2,z0];unfold okB at c;cases c1:Jx s with
  | false=>
   rw [c1] at hP;simp only [go_sem,qy,qq,qv,qk,s21p0,s21p1,hP]
  | true=>
  rw [c1] at hP;cases c2:QM a 0 0 with
  | false=>
   rw [c2] at hO;simp only [go_sem,qy,qq,qv,qk,s21p0,s21p1,hP,hO]
  | true=>
  rw [c2] at hO;cases c5003:Q9 e with
  | false=>
   rw [c5003] at hF;simp only [go_sem,qy,qq,qv,qk,s21p0,s21p1,hP,hO,hF]
  | true=>rw [c1,c2,c5003] at c;cases c
 | true=>
  have c':=c;unfold okB at c';simp only [ZO2] at c';obtain ⟨c1,c2,c5003⟩:=c';obtain ⟨k,hk,hk1,hk2⟩:=Z4w e c5003;obtain ⟨hN,hE⟩:=Z4v (wk0 s a e) (Z4s s hs a e he) k hk hk1 hk2 (Z4x s c1) (fun h=>FO e c5003 (by rw [←h];exact hk))
  rw [c1] at hP;rw [c2] at hO;rw [c5003] at hF;cases c5004:Q1 (wk0 s a e)==0 with
  | false=>
   have e1:Qk s a e=Q1 (wk0 s a e):=by unfold Qk;rw [c,c5004];rfl
   have e2:ZP s a e=Yh:=by unfold ZP;rw [c,c5004];rfl
   obtain ⟨fr',t,h1,h2,h3⟩:=hE c5004;rw [e1,e2,z0];simp only [apH,wH,wk0,wkC,steps,ZOa,ZOl] at h1 h3 ⊢;simp only [go_sem,qy,qq,qv,qk,s21p0,s21p1,s21p2,s21p3,hP,hO,hF,hI,h1,h2,h3]
  | true=>
   have h1:=hN c5004;have hz:=FN s hs a e he;have hB:=Fk (stepW (wk0 s a e)).s hz;generalize hW:stepW (wk0 s a e)=W at h1 hB hz;simp only [apH,wH,wk0,wkC,steps] at h1;cases c5005:Wh W.s.Doors with
   | false=>
    have e1:Qk s a e=8:=by unfold Qk;rw [c,c5004,hW,c5005];rfl
    have e2:ZP s a e=Yh:=by unfold ZP;rw [c,c5004,hW,c5005];rfl
    rw [e1,e2,z0];rw [c5005] at hB;simp only [go_sem,qy,qq,qv,qk,s21p0,s21p1,s21p2,s21p3,s21p5,s21p6,hP,hO,hF,hI,h1,hB]
   | true=>
    have e1:Qk s a e=0:=by unfold Qk;rw [c,c5004,hW,c5005];rfl
    have e2:ZP s a e=W.s:=by unfold ZP;rw [c,c5004,hW,c5005];rfl
    rw [e1,e2];rw [c5005] at hB;simp only [go_sem,qy,qq,qv,qk,s21p0,s21p1,s21p2,s21p3,s21p5,s21p6,hP,hO,hF,hI,h1,hB]
end Go.AM
namespace Go.AM
open Go
def ZcX:List (List UInt8)→List (List UInt8)
 | []=>[]
 | a::r=>match ZcX r with
  | []=>[a]
  | b::s=>if a=b then b::s else a::b::s
theorem ZdC:∀ l:List (List UInt8),Ys (l.map Qd)=(ZcX l).map Qd
 | []=>rfl
 | a::r=>by
  rw [ZOb];unfold Ys ZcX;rw [ZdC r];cases ZcX r with
  | nil=>rfl
  | cons b s=>
   have e:sameKey (Qd a) (Qd b)=decide (a=b):=by
    show Z3 _ _=_
    unfold Z3;have e1:(⟨a.toArray⟩:ByteArray).data.toList=a:=by simp
    have e2:(⟨b.toArray⟩:ByteArray).data.toList=b:=by simp
    rw [e1,e2];by_cases h:a=b
    ·subst h;simp
    ·rw [decide_eq_false h];simpa using h
   show (bif sameKey (Qd a) (Qd b) then _ else _)=_
   rw [e];by_cases h:a=b
   ·simp [h]
   ·simp [h]
theorem Ze5 (a:List UInt8) (r:List (List UInt8)):∃ t,ZcX (a::r)=a::t∧t.length≤r.length:=by
 induction r generalizing a with
 | nil=>exact ⟨[],rfl,ZO4 _⟩
 | cons b s ih=>
  obtain ⟨t,h1,h2⟩:=ih b;unfold ZcX;rw [h1];by_cases h:a=b
  ·subst h;exact ⟨t,by simp,by simp;omega⟩
  ·exact ⟨b::t,by simp [h],by simp;omega⟩
def Adj:List (List UInt8)→Prop
 | []=>True
 | [_]=>True
 | a::b::r=>a≠b∧Adj (b::r)
theorem ZdD:∀ l:List (List UInt8),(ZcX l).length=l.length↔Adj l
 | []=>⟨fun _=>trivial,fun _=>rfl⟩
 | [a]=>⟨fun _=>trivial,fun _=>rfl⟩
 | a::b::r=>by
  have ih:=ZdD (b::r);obtain ⟨t,h1,h2⟩:=Ze5 b r;rw [h1] at ih;unfold Adj;rw [←ih];unfold ZcX;rw [h1];by_cases h:a=b
  ·subst h;simp;omega
  ·simp [h]
theorem ZdE:∀ l:List (List UInt8),l.Pairwise (fun a b=>leB a b=true)→Adj l→l.Nodup
 | [],_,_=>.nil
 | [a],_,_=>by simp
 | a::b::r,hs,h=>by
  unfold Adj at h;rw [ZPa] at hs;have ih:=ZdE (b::r) hs.2 h.2;rw [ZOL];refine ⟨fun hm=>?_,ih⟩
  rcases ZOt.1 hm with e | hm
  ·exact h.1 e
  ·have hb:=(ZPa.1 hs.2).1 a hm;exact h.1 (ET _ _ (hs.1 b (ZOv ..)) hb)
theorem ZdF:∀ l:List (List UInt8),l.Nodup→Adj l
 | [],_=>trivial
 | [a],_=>trivial
 | a::b::r,h=>by
  rw [ZOL] at h;exact ⟨fun e=>h.1 (by rw [e];exact ZOv ..),ZdF (b::r) h.2⟩
theorem bytes_inj {a b:Str} (h:a.data.toList=b.data.toList):a=b:=by
 obtain ⟨⟨a⟩⟩:=a;obtain ⟨⟨b⟩⟩:=b;have:a=b:=h;rw [this]
theorem ZdG {α β:Type} {f:α→β} (hf:∀ a b,f a=f b→a=b):∀ {l:List α},(l.map f).Nodup↔l.Nodup
 | []=>by simp
 | a::r=>by
  rw [ZOb,ZOL,ZOL,ZdG hf];refine and_congr_left fun _=>not_congr ⟨fun h=>?_,fun h=>ZP1 h⟩
  obtain ⟨b,hb,e⟩:=ZOr.1 h;rw [←hf _ _ e];exact hb
theorem Ze6 (l:List Str):l.map encS=(l.map (fun x:Str=>x.data.toList)).map Qd:=by
 rw [ZOU];apply ZPD;intro x _;obtain ⟨⟨x⟩⟩:=x;rfl
theorem Zdk (l:List Str):Jq l=true↔l.Nodup:=by
 have e:(Ys (Yk (l.map encS))).length=(ZcX (WD (l.map (fun x:Str=>x.data.toList)))).length:=by
  rw [Ze6,D4,ZdC,ZO3]
 have hl:(WD (l.map (fun x:Str=>x.data.toList))).length=l.length:=by
  rw [(RS _).length_eq,ZO3]
 unfold Jq;rw [beq_iff_eq,e];rw [show ((ZcX (WD (l.map (fun x:Str=>x.data.toList)))).length:Int)=(l.length:Int)↔(ZcX (WD (l.map (fun x:Str=>x.data.toList)))).length=(WD (l.map (fun x:Str=>x.data.toList))).length from by rw [hl];omega]
 rw [ZdD];have h1:Adj (WD (l.map (fun x:Str=>x.data.toList)))↔(WD (l.map (fun x:Str=>x.data.toList))).Nodup:=⟨ZdE _ (D8 _),ZdF _⟩
 rw [h1,(RS _).nodup_iff,ZdG (fun a b h=>bytes_inj h)]
end Go.AM
namespace Go.AM
open Go
theorem Zc8 {s t:Sta} (h:t.Merged=s.Merged):∀ n k,chN t n k=chN s n k:=by
 have hk:XJ t=XJ s:=by funext k;unfold XJ;rw [h]
 intro n;induction n with
 | zero=>intro k;rfl
 | succ n ih=>
  intro k;simp only [chN,hk,h,ih]
theorem ZbN {s t:Sta} (h:t.Merged=s.Merged) (h2:t.Rulings=s.Rulings):WK t=WK s:=by
 unfold WK;rw [h,h2];have e:(fun p:Pair=>chN t (s.Merged.length+1) p.b)=(fun p=>chN s (s.Merged.length+1) p.b):=funext fun p=>Zc8 h _ _
 rw [e]
theorem ZbO {s:Sta} {L:List Street} (hI:L.map (·.Id)=s.Streets.map (·.Id)) (hE:L.map (·.Ended)=s.Streets.map (·.Ended)) (hok:L.all Vp=true) (h:Jx s=true):Jx { s with Streets:=L }=true:=by
 have h1:∀ id,ZL { s with Streets:=L } id=ZL s id:=fun id=>by
  unfold ZL;rw [NX (fun x:Street=>x.Id) (fun y=>Z3 y id) L 0,NX (fun x:Street=>x.Id) (fun y=>Z3 y id) s.Streets 0]
  rw [hI]
 have h2:∀ k,QF { s with Streets:=L } k=QF s k:=fun k=>by
  have:(L.map (·.Ended))[k.toNat]? = (s.Streets.map (·.Ended))[k.toNat]?:=by rw [hE]
  rw [ZOF,ZOF] at this;unfold QF;show (match L[k.toNat]? with | some b=>b.Ended | none=>0)=_
  cases ha:L[k.toNat]? with
  | none=>
   rw [ha] at this;cases hb:s.Streets[k.toNat]? with
   | none=>rfl
   | some y=>rw [hb] at this;cases this
  | some x=>
   rw [ha] at this;cases hb:s.Streets[k.toNat]? with
   | none=>rw [hb] at this;cases this
   | some y=>rw [hb] at this;exact Option.some.inj this
 have h3:Vr { s with Streets:=L }=Vr s:=by
  funext i x
  unfold Vr Hg NO;rw [h1,h2];rfl
 have h4:Qp { s with Streets:=L }=Qp s:=by
  unfold Qp;rw [hI]
 have h5:WK { s with Streets:=L }=WK s:=ZbN rfl rfl
 have h6:Vs { s with Streets:=L }=Vs s:=rfl
 unfold Jx at h ⊢;rw [h3,h4,h5,h6];simp only [ZO2] at h ⊢;exact ⟨h.1,hok,h.2.2⟩
theorem Zc9 {s:Sta} {L:List Region} (hI:L.map (·.Id)=s.Regions.map (·.Id)) (hok:L.all Vo=true) (h:Jx s=true):Jx { s with Regions:=L }=true:=by
 have h4:Qp { s with Regions:=L }=Qp s:=by
  unfold Qp;rw [hI]
 have h5:WK { s with Regions:=L }=WK s:=ZbN rfl rfl
 have h6:Vs { s with Regions:=L }=Vs s:=rfl
 have h3:Vr { s with Regions:=L }=Vr s:=rfl
 unfold Jx at h ⊢;rw [h3,h4,h5,h6];simp only [ZO2] at h ⊢;exact ⟨hok,h.2⟩
theorem ZbB {α:Type} {P:α→Bool} {f:α→α} {l:List α} {k:Nat} (h:l.all P=true) (hf:∀ x,P x=true→P (f x)=true):(ZK l k f).all P=true:=by
 unfold ZK;split
 ·rename_i x hx;rw [ZO8] at h ⊢;intro y hy;rcases ZQe hy with h1 | rfl
  ·exact h y h1
  ·exact hf x (h x (ZOh hx))
 ·exact h
theorem Zbz {α:Type} (l:List α) (k:Nat) (f:α→α) (i:Nat):(ZK l k f)[i]? = if i=k then (l[k]?).map f else l[i]?:=by
 unfold ZK;cases h:l[k]? with
 | none=>
  by_cases hi:i=k
  ·subst hi;rw [if_pos rfl,h];rfl
  ·rw [if_neg hi]
 | some x=>
  by_cases hi:i=k
  ·subst hi;rw [if_pos rfl,List.getElem?_set_self (ZO7.1 h).1];rfl
  ·rw [if_neg hi,List.getElem?_set_ne (Ne.symm hi)]
def Zbx (S:List Street) (k:Nat):NL Nm:=match S[k]? with | some x=>x.Names | none=>⟨false,[]⟩
def swN (S:List Street) (j k:Nat):List Street:=ZK (ZK S j (XN (Zbx S k))) k (XN (Zbx S j))
theorem ZbR {α:Type} {S:List Street} {j k:Nat} (g:Street→α) (hg:∀ n x,g (XN n x)=g x):(swN S j k).map g=S.map g:=by
 unfold swN;rw [FK g _ (fun x=>hg _ x),FK g _ (fun x=>hg _ x)]
theorem Zcb {x:Street} (h:Vp x=true):Jp x.Names.l x.Names.ex=true:=by
 unfold Vp at h;simp only [ZO2] at h;exact h.2.1
theorem ZbG {x:Street} {n:NL Nm} (h:Vp x=true) (hn:Jp n.l n.ex=true):Vp (XN n x)=true:=by
 have:Vp (XN n x)=(QM x.Owner x.Ended 0&&(Jp n.l n.ex&&Q9 { Ju x with Kind:=2 })):=rfl
 rw [this,hn];unfold Vp at h;simp only [ZO2] at h ⊢;exact ⟨h.1,trivial,h.2.2⟩
theorem Zcc {x:Region} {n:NL Nm} (h:Vo x=true) (hn:Jp n.l n.ex=true):Vo (NT n x)=true:=by
 have:Vo (NT n x)=(QM x.Owner x.Ended 0&&(Jp n.l n.ex&&Q9 { Jt x with Kind:=1 })):=rfl
 rw [this,hn];unfold Vo at h;simp only [ZO2] at h ⊢;exact ⟨h.1,trivial,h.2.2⟩
theorem ZbS {S:List Street} {k:Nat} {y:Street} (hk:S[k]? = some y) (h:S.all Vp=true):Jp (Zbx S k).l (Zbx S k).ex=true:=by
 have:Zbx S k=y.Names:=by simp [Zbx,hk]
 rw [this];exact Zcb (ZO8.1 h y (ZOh hk))
end Go.AM
namespace Go.AM
open Go
theorem Zcd (e:Event) (he:Q9 e=true) (hk:e.Kind=3):Jp e.Names.l e.Names.ex=true:=by
 have hn:Uz e.Names.l=true:=by
  unfold Q9 Q8 at he;rw [hk] at he;simp only [ZO2] at he;have:=he.2.2.2.2;have h2:(ZZ e.Id&&Uz e.Names.l)=true:=this;rw [ZO2] at h2;exact h2.2
 have h1:Q9 (Jo e.Names.l e.Names.ex)=Uz e.Names.l:=by
  have e1:(ZD (Jo e.Names.l e.Names.ex).Kind 1 15&&(ZD (Jo e.Names.l e.Names.ex).Day 0 100000&&(!Fb (Zq (Jo e.Names.l e.Names.ex))&&NG (Zq (Jo e.Names.l e.Names.ex)))))=true:=by rfl
  have e2:Q8 (Jo e.Names.l e.Names.ex)=(ZZ (B [120])&&Uz e.Names.l):=by kernel_rfl
  have e3:ZZ (B [120])=true:=by decide +kernel
  unfold Q9;simp only [ZO2] at e1;rw [e1.1,e1.2.1,e1.2.2.1,e1.2.2.2,e2,e3];rfl
 unfold Jp;rw [h1,hn,ZPh]
theorem ZbU {α β:Type} {f:α→β} {a b:Option α} (h:a.map f=b.map f):(∃ x y,a=some x∧b=some y∧f x=f y)∨(a=none∧b=none):=by
 cases a with
 | none=>cases b with
  | none=>exact Or.inr ⟨rfl,rfl⟩
  | some y=>cases h
 | some x=>cases b with
  | none=>cases h
  | some y=>exact Or.inl ⟨x,y,rfl,rfl,Option.some.inj h⟩
theorem ZbV {s:Sta} {a:Int} {e:Event} (h:Qk s a e=0):okB s a e=true∧Q1 (wk0 s a e)=0∧Wh (stepW (wk0 s a e)).s.Doors=true∧ZP s a e=(stepW (wk0 s a e)).s:=by
 unfold Qk at h;unfold ZP;cases c1:okB s a e with
 | false=>rw [c1] at h;cases h
 | true=>
 cases c2:Q1 (wk0 s a e)==0 with
 | false=>
  rw [c1,c2,cond_true,cond_false] at h;rw [h] at c2;cases c2
 | true=>
 cases c5003:Wh (stepW (wk0 s a e)).s.Doors with
 | false=>rw [c1,c2,c5003] at h;cases h
 | true=>exact ⟨rfl,by simpa using c2,rfl,rfl⟩
theorem ZbX {s:Sta} {a:Int} {e:Event} (h:okB s a e=true):Jx s=true∧QM a 0 0=true∧Q9 e=true:=by
 unfold okB at h;simp only [ZO2] at h;exact h
end Go.AM
namespace Go.AM
open Go
structure Prop' (s:Sta):Prop where
 rg:∀ x∈s.Regions,Vo x=true
 st:∀ x∈s.Streets,Vp x=true
 bu:∀ x∈s.Buildings,Vq x=true
 dr:∀ (i:Nat) d,s.Doors[i]? = some d→Vr s i d=true
 un:∀ x∈s.Units,Vs s x=true
 ids:(Qp s).Nodup
 pa:WK s=true
theorem Zda {α:Type} {P:Nat→α→Bool}:∀ {l:List α} {i:Nat},Zu P i l=true↔∀ (j:Nat) x,l[j]? = some x→P (i+j) x=true
 | [],i=>⟨fun _ j x h=>(by simp at h),fun _=>rfl⟩
 | y::r,i=>by
  unfold Zu;rw [ZO2,Zda (l:=r)];constructor
  ·rintro ⟨h1,h2⟩ j x hx;cases j with
   | zero=>cases hx;exact h1
   | succ j=>have:=h2 j x hx;rw [show i+(j+1)=i+1+j by omega];exact this
  ·intro h;exact ⟨h 0 y rfl,fun j x hx=>by have:=h (j+1) x hx;rw [show i+1+j=i+(j+1) by omega];exact this⟩
theorem Zdb (s:Sta):Jx s=true↔Prop' s∧Wh s.Doors=true:=by
 unfold Jx;simp only [ZO2];constructor
 ·rintro ⟨h1,h2,h3,h4,h5,h6,h7,h8⟩;exact ⟨⟨ZO8.1 h1,ZO8.1 h2,ZO8.1 h3,fun i d hd=>by have:=Zda.1 h4 i d hd;rwa [ZOf] at this,ZO8.1 h5,(Zdk _).1 h6,h8⟩,h7⟩
 ·rintro ⟨⟨h1,h2,h3,h4,h5,h6,h8⟩,h7⟩;exact ⟨ZO8.2 h1,ZO8.2 h2,ZO8.2 h3,Zda.2 (fun i d hd=>by rw [ZOf];exact h4 i d hd),ZO8.2 h5,(Zdk _).2 h6,h7,h8⟩
def look {α:Type} (f:α→Str) (l:List α) (id:Str):Int:=Zp (fun x=>Z3 (f x) id) l 0
theorem ZdH {α:Type} (P:α→Bool):∀ (l m:List α) (i:Int),Zp P l i≠-1→0≤i→Zp P (l++m) i=Zp P l i
 | [],m,i,h,_=>absurd rfl h
 | x::r,m,i,h,hi=>by
  unfold Zp at h ⊢;cases hx:P x with
  | true=>simp [hx]
  | false=>
   rw [hx] at h;simp only [ZOa,hx] at h ⊢;exact ZdH P r m (i+1) h (by omega)
theorem Ze7 {α:Type} {f:α→Str} {l:List α} {id:Str} (h:decide (look f l id < 0)=true):look f l id=-1:=by
 unfold look at h ⊢;rcases UA (fun x=>Z3 (f x) id) l 0 with ⟨h1,_⟩ | ⟨j,x,h1,_⟩
 ·exact h1
 ·have:=of_decide_eq_true h;omega
theorem Zdt {α:Type} {f:α→Str} {l m:List α} {id:Str} (h:decide (look f l id < 0)=false):look f (l++m) id=look f l id:=by
 unfold look;apply ZdH
 ·intro e;have:=of_decide_eq_false h;unfold look at this;omega
 ·omega
theorem Zdc {α:Type} {f:α→Str} {l m:List α} {id:Str} (h:l.map f=m.map f):look f l id=look f m id:=by
 unfold look;rw [NX f (fun y=>Z3 y id) l 0,NX f (fun y=>Z3 y id) m 0,h]
theorem ZcU {α:Type} {f:α→Str} {l:List α} {id:Str} (h:decide (look f l id < 0)=false):∃ (j:Nat) (x:α),look f l id=(j:Int)∧l[j]? = some x∧f x=id:=by
 unfold look at h ⊢;rcases UA (fun x=>Z3 (f x) id) l 0 with ⟨h1,_⟩ | ⟨j,x,h1,h2,h3⟩
 ·rw [h1] at h;cases h
 ·exact ⟨j,x,by omega,h2,by have:=List.find?_some h3;exact (Ky _ _).1 this⟩
theorem Ze8 {α:Type} {f:α→Str} {l:List α} {x:α} (h:x∈l):decide (look f l (f x) < 0)=false:=by
 unfold look;rcases UA (fun y=>Z3 (f y) (f x)) l 0 with ⟨_,h2⟩ | ⟨j,y,h1,_,_⟩
 ·exfalso;have:=ZQb.1 h2 x h;exact this ((Ky _ _).2 rfl)
 ·exact decide_eq_false (by omega)
theorem Zi1 {α:Type} {f:α→Str} {l:List α} {j:Nat} {x:α} (hn:(l.map f).Nodup) (h:l[j]? = some x):look f l (f x)=(j:Int):=by
 obtain ⟨k,y,h1,h2,h3⟩:=ZcU (Ze8 (f:=f) (ZOh h));have hk:(l.map f)[k]? = some (f x):=by rw [ZOF,h2,ZOB,h3]
 have hj:(l.map f)[j]? = some (f x):=by rw [ZOF,h,ZOB]
 have hkl:=(ZO7.1 hk).1;have:k=j:=(List.getElem?_inj hkl hn).1 (hk.trans hj.symm);rw [h1,this]
theorem ZEz (s:Sta) (id:Str):Zn s id=look (fun x:Door=>x.Id) s.Doors id:=rfl
theorem Zd0 (s:Sta) (i:Nat) (d:Door):Vr s i d=true↔QM d.Owner d.Ended d.From=true∧(∀ id∈d.After.l,decide (Zn s id≤i)=false)∧UC d=false∧(Z3 d.Veil emp=true→NO s d=false∧Q9 { Hf d with Kind:=6 }=true)∧(Z3 d.Veil emp=false→NN d=true):=by
 unfold Vr Hg K8;rw [ZO2,ZO2,ZO2,ZO8,ZOn];simp only [ZOn];cases Z3 d.Veil emp with
 | true=>rw [cond_true,ZO2,ZOn];simp
 | false=>rw [cond_false];simp
theorem Zdd (s:Sta) (d:Door):NO s d=false↔d.Office=0∧decide (Y1 s d.Building < 0)=false∧decide (ZL s d.Street < 0)=false∧(d.Ended=-1→WL s (Y1 s d.Building)=-1∧QF s (ZL s d.Street)=-1):=by
 unfold NO exD;rw [ZPs,ZPs,ZPs,bne_eq_false_iff_eq];constructor
 ·rintro ⟨⟨⟨h1,h2⟩,h3⟩,h4⟩;refine ⟨h1,h2,h3,fun he=>?_⟩
  rw [he] at h4;have:(WL s (Y1 s d.Building) != -1||QF s (ZL s d.Street) != -1)=false:=by simpa using h4
  rw [ZPs,bne_eq_false_iff_eq,bne_eq_false_iff_eq] at this;exact this
 ·rintro ⟨h1,h2,h3,h4⟩;refine ⟨⟨⟨h1,h2⟩,h3⟩,?_⟩;cases he:d.Ended==-1 with
  | false=>rfl
  | true=>
   obtain ⟨a,b⟩:=h4 (by simpa using he)
   rw [a,b];rfl
theorem Zdl (s:Sta) (x:Unit'):Vs s x=true↔decide (Zn s x.Door < 0)=false∧QM 0 x.Ended x.From=true∧Q9 { Vn x with Kind:=7 }=true∧(x.Ended=-1→x.Why=0∧QN s (Zn s x.Door)=-1)∧(x.Ended≠-1→x.Why=12∨x.Why=11):=by
 unfold Vs Jw;rw [ZO2,ZO2,ZO2,ZOn,ZOn];refine and_congr_right fun _=>and_congr_right fun _=>and_congr_right fun _=>?_
 rw [ZPs];cases he:x.Ended==-1 with
 | true=>
  have h:x.Ended=-1:=by simpa using he
  have h2:(x.Ended != -1)=false:=by simpa using he
  rw [h2];simp [h]
 | false=>
  have h:x.Ended≠-1:=by simpa using he
  have h2:(x.Ended != -1)=true:=by simpa using he
  rw [h2];simp [h];by_cases hw:x.Why=12
  ·simp [hw]
  ·simp [hw]
end Go.AM
namespace Go.AM
open Go
theorem ZcV {e:Event} (h:Q9 e=true):Q8 e=true:=by
 unfold Q9 at h;simp only [ZO2] at h;exact h.2.2.2.2
theorem Zd1 {e:Event} (h:Q9 e=true):ZD e.Day 0 100000=true:=by
 unfold Q9 at h;simp only [ZO2] at h;exact h.2.1
theorem Zd3 {e:Event} (h1:(ZD e.Kind 1 15&&(ZD e.Day 0 100000&&(!Fb (Zq e)&&NG (Zq e))))=true):Q9 e=Q8 e:=by
 unfold Q9;simp only [ZO2] at h1;rw [h1.1,h1.2.1,h1.2.2.1,h1.2.2.2];rfl
theorem ZdI (x:Street):Q9 { Ju x with Kind:=2 }=(ZZ x.Id&&Ul x.Line.l):=(Zd3 (by rfl)).trans (by kernel_rfl)
theorem ZdJ (x:Building):Q9 { Jv x with Kind:=5 }=(ZZ x.Id&&Vh x.Ring.l):=(Zd3 (by rfl)).trans (by kernel_rfl)
theorem Zdu (x:Region):Q9 { Jt x with Kind:=1 }=(ZZ x.Id&&(ZD x.Kind 1 3&&Vh x.Ring.l)):=(Zd3 (by rfl)).trans (by kernel_rfl)
theorem Zdm (x:Door):Q9 { Hf x with Kind:=6 }=(Qv [x.Id,x.Building,x.Street]&&(YO x.Number&&gOn x.Point)):=(Zd3 (by rfl)).trans (by kernel_rfl)
theorem Ze9 (x:Door):Q9 { NM x with Kind:=15 }=(ZZ x.Id&&(ZD x.Office 0 63&&Uu x.Veil)):=(Zd3 (by rfl)).trans (by kernel_rfl)
theorem ZdK (x:Unit'):Q9 { Vn x with Kind:=7 }=(Qv [x.Id,x.Door]&&Jm x.Text 24):=(Zd3 (by rfl)).trans (by kernel_rfl)
theorem ZcW {e:Event} {k:Int} (hk:e.Kind=k):Q8 e=Q8 { e with Kind:=k }:=by rw [←hk]
theorem Zd4 {a:Int} (h:QM a 0 0=true) {b c:Int} (hb:ZD b (-1) 100000=true) (hc:ZD c 0 100000=true):QM a b c=true:=by
 unfold QM at h ⊢;simp only [ZO2] at h ⊢;exact ⟨h.1,hb,hc⟩
theorem Zde {d:Int} (h:ZD d 0 100000=true):ZD d (-1) 100000=true:=by
 unfold ZD at h ⊢;simp only [ZO2,decide_eq_true_eq] at h ⊢;omega
theorem Zd5 {d:Int} (h:ZD d 0 100000=true):d≠-1:=by
 unfold ZD at h;simp only [ZO2,decide_eq_true_eq] at h;omega
theorem Zd6 {s t:Sta} {i:Nat} {d:Door} (h:Vr s i d=true)
 (hf:∀ id,decide (Zn s id < 0)=false→Zn t id=Zn s id)
 (hb:∀ id,decide (Y1 s id < 0)=false→Y1 t id=Y1 s id)
 (hs:∀ id,decide (ZL s id < 0)=false→ZL t id=ZL s id)
 (he:d.Ended=-1→Z3 d.Veil emp=true→decide (Y1 s d.Building < 0)=false→WL s (Y1 s d.Building)=-1→WL t (Y1 s d.Building)=-1)
 (he2:d.Ended=-1→Z3 d.Veil emp=true→decide (ZL s d.Street < 0)=false→QF s (ZL s d.Street)=-1→QF t (ZL s d.Street)=-1):Vr t i d=true:=by
 rw [Zd0] at h ⊢;obtain ⟨h1,h2,h3,h4,h5⟩:=h;refine ⟨h1,fun id hid=>?_,h3,fun hv=>?_,h5⟩
 ·have:=h2 id hid;have hp:decide (Zn s id < 0)=false:=decide_eq_false (by have:=of_decide_eq_false this;omega)
  rw [hf id hp];exact this
 ·obtain ⟨h6,h7⟩:=h4 hv;rw [Zdd] at h6 ⊢;obtain ⟨g1,g2,g3,g4⟩:=h6;refine ⟨⟨g1,?_,?_,fun hE=>?_⟩,h7⟩
  ·rw [hb _ g2];exact g2
  ·rw [hs _ g3];exact g3
  ·obtain ⟨g5,g6⟩:=g4 hE;rw [hb _ g2,hs _ g3];exact ⟨he hE hv g2 g5,he2 hE hv g3 g6⟩
theorem Zdv {s t:Sta} {x:Unit'} (h:Vs s x=true) (hf:∀ id,decide (Zn s id < 0)=false→Zn t id=Zn s id)
 (he:x.Ended=-1→decide (Zn s x.Door < 0)=false→QN s (Zn s x.Door)=-1→QN t (Zn s x.Door)=-1):Vs t x=true:=by
 rw [Zdl] at h ⊢;obtain ⟨h1,h2,h3,h4,h5⟩:=h;refine ⟨by rw [hf _ h1];exact h1,h2,h3,fun hE=>?_,h5⟩
 obtain ⟨h6,h7⟩:=h4 hE;exact ⟨h6,by rw [hf _ h1];exact he hE h1 h7⟩
theorem Zdw {α:Type} {f:α→Str} {l m:List α} {id:Str} (h:decide (look f l id < 0)=false):(l++m)[(look f l id).toNat]? = l[(look f l id).toNat]?:=by
 obtain ⟨j,x,h1,h2,_⟩:=ZcU h;have hj:(look f l id).toNat=j:=by omega
 rw [hj,ZOz (ZO7.1 h2).1]
theorem Zd2 {s:Sta} {a:Int} {e:Event} {id:Str} (h:twB (wk0 s a e) id=false):id ∉ Qp s:=by
 intro hm;have:=ZPb.1 h id hm;exact this ((Ky _ _).2 rfl)
theorem Zdn {l1 l2:List Str} {x:Str} (h:(l1++l2).Nodup) (hx:x ∉ l1++l2):(l1++[x]++l2).Nodup:=by
 have hp:(l1++[x]++l2).Perm (x::(l1++l2)):=by
  rw [ZOo];exact ZQ1
 rw [hp.nodup_iff,ZOL];exact ⟨hx,h⟩
theorem ZcY {s t:Sta} (h:Prop' s) (h1:t.Merged=s.Merged) (h2:t.Rulings=s.Rulings):WK t=true:=(ZbN h1 h2).trans h.pa
theorem Zea {s:Sta} (h:Prop' s) {x:Street} (hx:Vp x=true) (hn:x.Id ∉ Qp s):Prop' { s with Streets:=s.Streets++[x] }:=by
 refine ⟨h.rg,?_,h.bu,fun i d hd=>?_,h.un,?_,?_⟩
 ·intro y hy;rcases ZOu.1 hy with h1 | h1
  ·exact h.st y h1
  ·rw [ZOi] at h1;subst h1;exact hx
 ·refine Zd6 (h.dr i d hd) (fun id _=>rfl) (fun id _=>rfl) (fun id h1=>Zdt h1) (fun _ _ _ h=>h) (fun _ _ h1 h2=>?_)
  unfold QF at h2 ⊢;rw [show ({ s with Streets:=s.Streets++[x] }:Sta).Streets[(ZL s d.Street).toNat]? = s.Streets[(ZL s d.Street).toNat]? from Zdw h1]
  exact h2
 ·have h0:=h.ids;unfold Qp at h0 hn ⊢;show (s.Regions.map _++((s.Streets++[x]).map _++_)).Nodup
  rw [ZOk,ZOo,←ZOo,←ZOo];rw [←ZOo] at h0 hn;exact Zdn h0 hn
 ·exact ZcY h rfl rfl
theorem Zeb {s:Sta} (h:Prop' s) {x:Building} (hx:Vq x=true) (hn:x.Id ∉ Qp s):Prop' { s with Buildings:=s.Buildings++[x] }:=by
 refine ⟨h.rg,h.st,?_,fun i d hd=>?_,h.un,?_,?_⟩
 ·intro y hy;rcases ZOu.1 hy with h1 | h1
  ·exact h.bu y h1
  ·rw [ZOi] at h1;subst h1;exact hx
 ·refine Zd6 (h.dr i d hd) (fun id _=>rfl) (fun id h1=>Zdt h1) (fun id _=>rfl) (fun _ _ h1 h2=>?_) (fun _ _ _ h=>h)
  unfold WL at h2 ⊢;rw [show ({ s with Buildings:=s.Buildings++[x] }:Sta).Buildings[(Y1 s d.Building).toNat]? = s.Buildings[(Y1 s d.Building).toNat]? from Zdw h1]
  exact h2
 ·have h0:=h.ids;unfold Qp at h0 hn ⊢;show (s.Regions.map _++(s.Streets.map _++((s.Buildings++[x]).map _++_))).Nodup
  rw [ZOk,ZOo,←ZOo,←ZOo,←ZOo];rw [←ZOo,←ZOo] at h0 hn;exact Zdn h0 hn
 ·exact ZcY h rfl rfl
theorem Zec {s:Sta} (h:Prop' s) {x:Region} (hx:Vo x=true) (hn:x.Id ∉ Qp s):Prop' { s with Regions:=s.Regions++[x] }:=by
 refine ⟨?_,h.st,h.bu,fun i d hd=>h.dr i d hd,h.un,?_,?_⟩
 ·intro y hy;rcases ZOu.1 hy with h1 | h1
  ·exact h.rg y h1
  ·rw [ZOi] at h1;subst h1;exact hx
 ·have h0:=h.ids;unfold Qp at h0 hn ⊢;show ((s.Regions++[x]).map _++_).Nodup
  rw [ZOk];exact Zdn h0 hn
 ·exact ZcY h rfl rfl
theorem Zed {s:Sta} (h:Prop' s) {x:Unit'} (hx:Vs s x=true) (hn:x.Id ∉ Qp s):Prop' { s with Units:=s.Units++[x] }:=by
 refine ⟨h.rg,h.st,h.bu,fun i d hd=>h.dr i d hd,?_,?_,?_⟩
 ·intro y hy;rcases ZOu.1 hy with h1 | h1
  ·exact h.un y h1
  ·rw [ZOi] at h1;subst h1;exact hx
 ·have h0:=h.ids;unfold Qp at h0 hn ⊢;show (s.Regions.map _++(s.Streets.map _++(s.Buildings.map _++(s.Doors.map _++(s.Units++[x]).map _)))).Nodup
  rw [ZOk,←ZOo,←ZOo,←ZOo,←ZOo];rw [←ZOo,←ZOo,←ZOo] at h0 hn;have:=Zdn (l2:=[]) (by rw [ZOc];exact h0) (by rw [ZOc];exact hn)
  rw [ZOc] at this;exact this
 ·exact ZcY h rfl rfl
theorem ZdL {s:Sta} (h:Prop' s) {m:List Door} (hd:∀ d∈m,∀ i,Vr s i d=true) (hn:(m.map (·.Id)).Nodup) (hk:∀ d∈m,d.Id ∉ Qp s):Prop' { s with Doors:=s.Doors++m }:=by
 have hF:∀ id,decide (Zn s id < 0)=false→Zn { s with Doors:=s.Doors++m } id=Zn s id:=fun id h1=>Zdt h1
 refine ⟨h.rg,h.st,h.bu,fun i d hi=>?_,fun u hu=>?_,?_,?_⟩
 ·have h0:Vr s i d=true:=by
   by_cases hl:i < s.Doors.length
   ·have hi':(s.Doors++m)[i]? = some d:=hi;rw [ZOz hl] at hi';exact h.dr i d hi'
   ·have hi':(s.Doors++m)[i]? = some d:=hi;rw [ZOA (by omega)] at hi'
    exact hd d (ZOh hi') i
  exact Zd6 h0 hF (fun id _=>rfl) (fun id _=>rfl) (fun _ _ _ h=>h) (fun _ _ _ h=>h)
 ·refine Zdv (h.un u hu) hF (fun _ h1 h2=>?_)
  unfold QN at h2 ⊢;rw [show ({ s with Doors:=s.Doors++m }:Sta).Doors[(Zn s u.Door).toNat]? = s.Doors[(Zn s u.Door).toNat]? from Zdw h1]
  exact h2
 ·have h0:=h.ids;have hp:(Qp { s with Doors:=s.Doors++m }).Perm (m.map (·.Id)++Qp s):=by
   unfold Qp;show (s.Regions.map _++(s.Streets.map _++(s.Buildings.map _++((s.Doors++m).map _++s.Units.map _)))).Perm _
   rw [ZOk];generalize s.Regions.map (·.Id)=A;generalize s.Streets.map (·.Id)=B;generalize s.Buildings.map (·.Id)=C;generalize s.Doors.map (·.Id)=D;generalize s.Units.map (·.Id)=F;generalize m.map (·.Id)=M;have e1:A++(B++(C++(D++M++F)))=(A++B++C++D)++(M++F):=by simp only [ZOo]
   have e2:M++(A++(B++(C++(D++F))))=M++((A++B++C++D)++F):=by simp only [ZOo]
   rw [e1,e2,←ZOo,←ZOo];exact List.Perm.append_right F ZQw
  rw [hp.nodup_iff,ZPi];refine ⟨hn,h0,fun x hx y hy e=>?_⟩
  obtain ⟨d,hdm,rfl⟩:=ZOr.1 hx;exact hk d hdm (e▸hy)
 ·exact ZcY h rfl rfl
end Go.AM
namespace Go.AM
open Go
theorem ZdM:Jp [] false=true:=rfl
theorem Zd7:ZD (-1) (-1) 100000=true:=rfl
theorem Zdf:ZD 0 0 100000=true:=rfl
theorem Zah {n m:Int} (h:(n != m)=false):n=m:=by simpa using h
theorem Zdo {b:Bool} (h:(bif b then (8:Int) else 0)=0):b=false:=by cases b with | true=>cases h | false=>rfl
theorem Zee {s:Sta} {a:Int} {e:Event} (h:Prop' s) (ha:QM a 0 0=true) (he:Q9 e=true) (hk:e.Kind=2) (h0:twB (wk0 s a e) e.Id=false):Prop' (Jz (wk0 s a e)).s:=by
 refine Zea h ?_ (Zd2 h0);have hn:(ZZ e.Id&&Ul e.Path.l)=true:=by have:=ZcV he;rw [ZcW hk] at this;exact this
 unfold Vp;rw [ZdI];show (QM a (-1) 0&&(Jp [] false&&(ZZ e.Id&&Ul e.Path.l)))=true
 rw [hn,ZdM,Zd4 ha Zd7 Zdf];rfl
theorem Zef {s:Sta} {a:Int} {e:Event} (h:Prop' s) (ha:QM a 0 0=true) (he:Q9 e=true) (hk:e.Kind=5) (h0:twB (wk0 s a e) e.Id=false):Prop' (JA (wk0 s a e)).s:=by
 refine Zeb h ?_ (Zd2 h0);have hn:(ZZ e.Id&&Vh e.Path.l)=true:=by have:=ZcV he;rw [ZcW hk] at this;exact this
 unfold Vq;rw [ZdJ];show (QM a (-1) 0&&(ZZ e.Id&&Vh e.Path.l))=true
 rw [hn,Zd4 ha Zd7 Zdf];rfl
theorem Zdx {s:Sta} {a:Int} {e:Event} {d:Door} (h:Prop' s) (hd:∀ i,Vr s i (Xl (wk0 s a e) d)=true) (h0:twB (wk0 s a e) d.Id=false):Prop' (Qw (wk0 s a e) d).s:=
 ZdL h (fun x hx i=>by rw [ZOi] at hx;subst hx;exact hd i) (by simp) (fun x hx=>by rw [ZOi] at hx;subst hx;exact Zd2 h0)
theorem Zeg {a b c:Int} (h:(bif a != -1||b != -1 then (11:Int) else 0)=0):a=-1∧b=-1:=by
 cases h1:a != -1 with
 | true=>rw [h1] at h;cases h
 | false=>
 cases h2:b != -1 with
 | true=>rw [h1,h2] at h;cases h
 | false=>exact ⟨by simpa using h1,by simpa using h2⟩
theorem Zeh {s:Sta} {a:Int} {e:Event} (h:Prop' s) (ha:QM a 0 0=true) (he:Q9 e=true) (hk:e.Kind=6) (h0:JD (wk0 s a e)=0):Prop' (Qw (wk0 s a e) (UE (wk0 s a e))).s:=by
 have hn:(Qv [e.Id,e.Other,e.Text]&&(YO e.Number&&gOn e.Point))=true:=by have:=ZcV he;rw [ZcW hk] at this;exact this
 unfold JD at h0;have ws:(wk0 s a e).s=s:=rfl;have we:(wk0 s a e).e=e:=rfl;rw [ws,we] at h0;cases c1:twB (wk0 s a e) e.Id with
 | true=>rw [c1] at h0;cases h0
 | false=>
 cases c2:decide (Y1 s e.Other < 0) with
 | true=>rw [c1,c2] at h0;cases h0
 | false=>
 cases c5003:decide (ZL s e.Text < 0) with
 | true=>rw [c1,c2,c5003] at h0;cases h0
 | false=>
 rw [c1,c2,c5003] at h0;obtain ⟨g1,g2⟩:=Zeg (c:=0) h0;refine Zdx h (fun i=>?_) c1
 rw [Zd0];refine ⟨Zd4 ha Zd7 (Zd1 he),fun id hid=>(by cases hid),by rfl,fun _=>⟨?_,?_⟩,fun hv=>?_⟩
 ·rw [Zdd];exact ⟨rfl,c2,c5003,fun _=>⟨g1,g2⟩⟩
 ·rw [Zdm];exact hn
 ·rw [show Z3 (Xl (wk0 s a e) (UE (wk0 s a e))).Veil emp=true from rfl] at hv;cases hv
theorem Zei {s:Sta} {a:Int} {e:Event} (h:Prop' s) (ha:QM a 0 0=true) (he:Q9 e=true) (hk:e.Kind=15) (h0:twB (wk0 s a e) e.Id=false):Prop' (Qw (wk0 s a e) (UD (wk0 s a e))).s:=by
 have hn:(ZZ e.Id&&(ZD e.Office 0 63&&Uu e.Text))=true:=by have:=ZcV he;rw [ZcW hk] at this;exact this
 have hv:Z3 e.Text emp=false:=by
  simp only [ZO2] at hn;have:=hn.2.2;unfold Uu at this;simp only [ZO2,ZOn] at this;exact this.1
 refine Zdx h (fun i=>?_) h0
 rw [Zd0];refine ⟨Zd4 ha Zd7 (Zd1 he),fun id hid=>(by cases hid),by rfl,fun hv2=>?_,fun _=>?_⟩
 ·rw [show (Xl (wk0 s a e) (UD (wk0 s a e))).Veil=e.Text from rfl,hv] at hv2;cases hv2
 ·unfold NN;rw [Ze9];exact hn
theorem Zej {s:Sta} {a:Int} {e:Event} (h:Prop' s) (he:Q9 e=true) (hk:e.Kind=7) (h0:JB (wk0 s a e)=0):Prop' (JC (wk0 s a e)).s:=by
 have hn:(Qv [e.Id,e.Other]&&Jm e.Text 24)=true:=by have:=ZcV he;rw [ZcW hk] at this;exact this
 unfold JB at h0;have ws:(wk0 s a e).s=s:=rfl;have we:(wk0 s a e).e=e:=rfl;rw [ws,we] at h0;cases c1:twB (wk0 s a e) e.Id with
 | true=>rw [c1] at h0;cases h0
 | false=>
 cases c2:decide (Zn s e.Other < 0) with
 | true=>rw [c1,c2] at h0;cases h0
 | false=>
 cases c5003:QN s (Zn s e.Other) != -1 with
 | true=>rw [c1,c2,c5003] at h0;cases h0
 | false=>
 refine Zed h ?_ (Zd2 c1);rw [Zdl];refine ⟨c2,?_,?_,fun _=>⟨rfl,Zah c5003⟩,fun hne=>absurd rfl hne⟩
 ·show QM 0 (-1) e.Day=true
  unfold QM;rw [Zd1 he];rfl
 ·rw [ZdK];exact hn
theorem Zek {s:Sta} {a:Int} {e:Event} (h:Prop' s) (hpr:Jx s=true) (ha:QM a 0 0=true) (he:Q9 e=true) (hk:e.Kind=1) (h0:Hi (wk0 s a e)=0):Prop' (Hj (wk0 s a e)).s:=by
 have hn:(ZZ e.Id&&(ZD e.A 1 3&&Vh e.Path.l))=true:=by have:=ZcV he;rw [ZcW hk] at this;exact this
 unfold Hi at h0;unfold Hj;have ws:(wk0 s a e).s=s:=rfl;have we:(wk0 s a e).e=e:=rfl;rw [ws,we] at h0 ⊢;cases c:decide (Qo s e.Id < 0) with
 | true=>
  rw [c,cond_true] at h0;refine Zec h ?_ (Zd2 (Zdo h0));unfold Vo;rw [Zdu];show (QM a (-1) 0&&(Jp [] false&&(ZZ e.Id&&(ZD e.A 1 3&&Vh e.Path.l))))=true
  rw [hn,ZdM,Zd4 ha Zd7 Zdf];rfl
 | false=>
  have hI:(ZK s.Regions (Qo s e.Id).toNat (NS e.Path)).map (·.Id)=s.Regions.map (·.Id):=FK (fun x:Region=>x.Id) (NS e.Path) (fun _=>rfl) _ _
  refine ((Zdb _).1 ?_).1;refine Zc9 hI ?_ hpr;refine ZbB (ZO8.2 h.rg) (fun x hx=>?_)
  unfold Vo at hx ⊢;rw [Zdu] at hx ⊢;simp only [ZO2] at hx hn ⊢;exact ⟨hx.1,hx.2.1,hx.2.2.1,hx.2.2.2.1,hn.2.2⟩
theorem Zel {s:Sta} {a:Int} {e:Event} (h:Prop' s) (he:Q9 e=true) (hk:e.Kind=14):Prop' (Hh (wk0 s a e)).s:=by
 have hn:K5 e.A e.B=true:=by have:=ZcV he;rw [ZcW hk] at this;exact this
 refine ⟨h.rg,h.st,h.bu,fun i d hd=>h.dr i d hd,h.un,h.ids,?_⟩
 have hp:=h.pa;unfold WK at hp ⊢;have e1:chN (Hh (wk0 s a e)).s=chN s:=by funext n k;exact Zc8 (s:=s) (t:=(Hh (wk0 s a e)).s) rfl n k
 rw [e1];simp only [ZO2] at hp ⊢;refine ⟨hp.1,?_,hp.2.2⟩;rw [ZO8];intro p hm;rcases ZOu.1 hm with h1 | h1
 ·exact ZO8.1 hp.2.1 p h1
 ·rw [ZOi] at h1;subst h1;unfold K5 at hn;simp only [ZO2] at hn;obtain ⟨n1,n2,n3⟩:=hn;show (QM e.A 0 0&&(QM e.B 0 0&&!(e.A==e.B)))=true
  unfold QM;have w0:ZD 0 (-1) 100000=true:=rfl;rw [n1,n2,w0,Zdf];simpa using n3
theorem Zem {s:Sta} {a:Int} {e:Event} (h:Prop' s) (hpr:Jx s=true) (h0:Hm (wk0 s a e)=0):Prop' (exW (wk0 s a e)).s:=by
 unfold Hm at h0;have ws:(wk0 s a e).s=s:=rfl;have we:(wk0 s a e).e=e:=rfl;rw [ws,we] at h0;cases c1:decide (ZL s e.Id < 0) with
 | true=>rw [c1] at h0;cases h0
 | false=>
 cases c2:decide (ZL s e.Other < 0) with
 | true=>rw [c1,c2] at h0;cases h0
 | false=>
 obtain ⟨j,x,hj,hx⟩:=QC c1;obtain ⟨k,y,hk',hy⟩:=QC c2;have hj':ZL s e.Id=(j:Int):=hj;have hk2:ZL s e.Other=(k:Int):=hk';have ht:(exW (wk0 s a e)).s={ s with Streets:=swN s.Streets j k }:=by
  unfold exW;rw [ws,we,hj',hk2];rfl
 rw [ht];refine ((Zdb _).1 ?_).1;have hall:s.Streets.all Vp=true:=ZO8.2 h.st;refine ZbO (ZbR (fun x=>x.Id) (fun _ _=>rfl)) (ZbR (fun x=>x.Ended) (fun _ _=>rfl)) ?_ hpr
 unfold swN;exact ZbB (ZbB hall (fun x hx=>ZbG hx (ZbS hy hall))) (fun x hx2=>ZbG hx2 (ZbS hx hall))
theorem Zen {s:Sta} {a:Int} {e:Event} (h:Prop' s) (hpr:Jx s=true) (he:Q9 e=true) (hk:e.Kind=3):Prop' (Hl (wk0 s a e)).s:=by
 have hnm:=Zcd e he hk;unfold Hl;have ws:(wk0 s a e).s=s:=rfl;have we:(wk0 s a e).e=e:=rfl;rw [ws,we];refine ((Zdb _).1 ?_).1;cases c:decide (Qo s e.Id ≥ 0) with
 | true=>exact Zc9 (FK (fun x:Region=>x.Id) (NT e.Names) (fun _=>rfl) _ _) (ZbB (ZO8.2 h.rg) (fun x hx=>Zcc hx hnm)) hpr
 | false=>exact ZbO (FK (fun x:Street=>x.Id) (XN e.Names) (fun _=>rfl) _ _) (FK (fun x:Street=>x.Ended) (XN e.Names) (fun _=>rfl) _ _) (ZbB (ZO8.2 h.st) (fun x hx=>ZbG hx hnm)) hpr
end Go.AM
namespace Go.AM
open Go
theorem Zd8 {s t:Sta} (h1:t.Regions.map (·.Id)=s.Regions.map (·.Id)) (h2:t.Streets.map (·.Id)=s.Streets.map (·.Id)) (h3:t.Buildings.map (·.Id)=s.Buildings.map (·.Id)) (h4:t.Doors.map (·.Id)=s.Doors.map (·.Id)) (h5:t.Units.map (·.Id)=s.Units.map (·.Id)):Qp t=Qp s:=by
 unfold Qp;rw [h1,h2,h3,h4,h5]
theorem Zeo (e:Event) (id:Str) (a:NL Str) (l:List Unit'):(UH e id a l).map (·.Id)=l.map (·.Id):=by
 unfold UH;rw [ZOU];apply ZPD;intro u _;show (XO e id a u).Id=u.Id
 unfold XO;cases Z3P id u with
 | false=>rfl
 | true=>
  show (UG e a u).Id=u.Id
  unfold UG;split<;>rfl
theorem ZdN {id:Str} {u:Unit'}:Z3P id u=true↔u.Door=id∧u.Ended=-1:=by
 unfold Z3P;rw [ZO2,Ky];simp
theorem ZdO {s t:Sta} {j:Int} (h:t.Doors[j.toNat]? = s.Doors[j.toNat]?):QN t j=QN s j:=by
 unfold QN;rw [h]
theorem Zdp {w:Wk} {k:Nat} {x:Door} {a:NL Str} (h:Prop' w.s) (hx:w.s.Doors[k]? = some x) (hday:ZD w.e.Day 0 100000=true)
 (hend:UC (UF w.e a x)=false) (haft:∀ id∈a.l,decide (Zn w.s id≤k)=false)
 (hu0:a.l=[]→w.e.Kind=12∨w.e.Kind=11)
 (hu1:∀ id r,a.l=id::r→QN w.s (Zn w.s id)=-1∧∀ u∈w.s.Units,Qv [u.Id,u.Door]=true→Qv [u.Id,id]=true):Prop' (Qf w k a).s:=by
 have hI:(ZK w.s.Doors k (UF w.e a)).map (·.Id)=w.s.Doors.map (·.Id):=FK (fun d:Door=>d.Id) (UF w.e a) (fun _=>rfl) _ _
 have ht:(Qf w k a).s={ w.s with Doors:=ZK w.s.Doors k (UF w.e a),Units:=UH w.e x.Id a w.s.Units }:=by
  unfold Qf;rw [hx];rfl
 rw [ht];have hF:∀ id,Zn { w.s with Doors:=ZK w.s.Doors k (UF w.e a),Units:=UH w.e x.Id a w.s.Units } id=Zn w.s id:=fun id=>Zdc hI
 have hG:∀ i d,(ZK w.s.Doors k (UF w.e a))[i]? = some d→(i=k∧d=UF w.e a x)∨(i≠k∧w.s.Doors[i]? = some d):=by
  intro i d hd;rw [Zbz] at hd;by_cases hi:i=k
  ·subst hi;rw [if_pos rfl,hx] at hd;exact Or.inl ⟨rfl,(Option.some.inj hd).symm⟩
  ·rw [if_neg hi] at hd;exact Or.inr ⟨hi,hd⟩
 have hE:∀ (j:Int),0≤j→j≠(k:Int)→QN { w.s with Doors:=ZK w.s.Doors k (UF w.e a),Units:=UH w.e x.Id a w.s.Units } j=QN w.s j:=by
  intro j hj0 hj;have:(ZK w.s.Doors k (UF w.e a))[j.toNat]? = w.s.Doors[j.toNat]?:=by
   rw [Zbz,if_neg (by omega)]
  exact ZdO this
 refine ⟨h.rg,h.st,h.bu,fun i d hd=>?_,fun u hu=>?_,?_,ZcY h rfl rfl⟩
 ·rcases hG i d hd with ⟨rfl,rfl⟩ | ⟨hi,hd'⟩
  ·have h0:=h.dr i x hx;rw [Zd0] at h0 ⊢;obtain ⟨o1,o2,o3,o4,o5⟩:=h0;refine ⟨?_,fun id hid=>?_,hend,fun hv=>?_,fun hv=>o5 hv⟩
   ·show QM x.Owner w.e.Day x.From=true
    unfold QM at o1 ⊢;simp only [ZO2] at o1 ⊢;exact ⟨o1.1,Zde hday,o1.2.2⟩
   ·rw [hF];exact haft id hid
   ·obtain ⟨q1,q2⟩:=o4 hv;rw [Zdd] at q1 ⊢;exact ⟨⟨q1.1,q1.2.1,q1.2.2.1,fun hE=>absurd hE (Zd5 hday)⟩,q2⟩
  ·exact Zd6 (h.dr i d hd') (fun id _=>hF id) (fun id _=>rfl) (fun id _=>rfl) (fun _ _ _ h=>h) (fun _ _ _ h=>h)
 ·obtain ⟨v,hv,rfl⟩:=ZOr.1 hu;have h0:=h.un v hv;unfold XO;cases hh:Z3P x.Id v with
  | false=>
   rw [cond_false];refine Zdv h0 (fun id _=>hF id) (fun hl hf hd=>?_)
   obtain ⟨j,y,hj,hy,hyi⟩:=ZcU (f:=fun d:Door=>d.Id) hf
   have hj':Zn w.s v.Door=(j:Int):=hj;have hjk:(j:Int)≠(k:Int):=by
    intro e;have:j=k:=by omega
    subst this;rw [hx] at hy;cases hy;rw [show Z3P x.Id v=true from ZdN.2 ⟨hyi.symm,hl⟩] at hh
    cases hh
   rw [hj'] at hd ⊢;rw [hE _ (by omega) hjk]
   exact hd
  | true=>
   rw [cond_true];obtain ⟨g1,g2⟩:=ZdN.1 hh;rw [Zdl] at h0 ⊢;obtain ⟨o1,o2,o3,o4,o5⟩:=h0;show decide (Zn _ (UG w.e a v).Door < 0)=false∧QM 0 (UG w.e a v).Ended (UG w.e a v).From=true∧Q9 { Vn (UG w.e a v) with Kind:=7 }=true∧((UG w.e a v).Ended=-1→(UG w.e a v).Why=0∧QN _ (Zn _ (UG w.e a v).Door)=-1)∧((UG w.e a v).Ended≠-1→(UG w.e a v).Why=12∨(UG w.e a v).Why=11)
   cases hal:a.l with
   | nil=>
    have e1:UG w.e a v={ v with Ended:=w.e.Day,Why:=w.e.Kind }:=by unfold UG;rw [hal]
    rw [e1];refine ⟨by rw [hF];exact o1,?_,o3,fun hE=>absurd hE (Zd5 hday),fun _=>hu0 hal⟩
    show QM 0 w.e.Day v.From=true
    unfold QM at o2 ⊢;simp only [ZO2] at o2 ⊢;exact ⟨o2.1,Zde hday,o2.2.2⟩
   | cons id r=>
    have e1:UG w.e a v={ v with Door:=id }:=by unfold UG;rw [hal]
    rw [e1];obtain ⟨q1,q2⟩:=hu1 id r hal;have q3:=haft id (by rw [hal];exact ZOv ..)
    have q4:(k:Int) < Zn w.s id:=by have:=of_decide_eq_false q3;omega
    have q5:decide (Zn w.s id < 0)=false:=decide_eq_false (by omega)
    refine ⟨by rw [hF];exact q5,o2,?_,fun hE2=>⟨(o4 g2).1,?_⟩,o5⟩
    ·rw [ZdK] at o3 ⊢;rw [ZO2] at o3 ⊢;exact ⟨q2 v hv o3.1,o3.2⟩
    ·rw [hF];show QN _ (Zn w.s id)=-1
     rw [hE (Zn w.s id) (by omega) (by omega)]
     exact q1
 ·have e:=Zd8 (s:=w.s) (t:={ w.s with Doors:=ZK w.s.Doors k (UF w.e a),Units:=UH w.e x.Id a w.s.Units }) rfl rfl rfl hI (Zeo _ _ _ _)
  rw [e];exact h.ids
end Go.AM
namespace Go.AM
open Go
theorem ZdP {K:List Str} {x:Str}:K.any (Z3 x)=true↔x∈K:=by
 rw [List.any_eq_true];exact ⟨fun ⟨y,h1,h2⟩=>by rw [(Ky _ _).1 h2];exact h1,fun h=>⟨x,h,(Ky _ _).2 rfl⟩⟩
theorem Zdy:∀ (l K:List Str),(l.foldl (Qi Z3) K).length≤K.length+l.length∧((l.foldl (Qi Z3) K).length=K.length+l.length↔l.Nodup∧∀ x∈l,x ∉ K)
 | [],K=>⟨by simp,by simp⟩
 | x::r,K=>by
  rw [ZPl];unfold Qi;cases hx:K.any (Z3 x) with
  | true=>
   obtain ⟨h1,h2⟩:=Zdy r K;simp only [cond_true];rw [ZOg];refine ⟨by have:=h1;unfold Qi at this;omega,⟨fun h=>?_,fun h=>?_⟩⟩
   ·have:=h1;unfold Qi at this;omega
   ·exact absurd (ZdP.1 hx) (h.2 x (ZOv ..))
  | false=>
   obtain ⟨h1,h2⟩:=Zdy r (K++[x]);have hk:x ∉ K:=fun h=>by rw [ZdP.2 h] at hx;cases hx
   simp only [cond_false];unfold Qi at h1 h2;rw [ZOj,ZPg] at h1 h2;rw [ZOg];refine ⟨by omega,?_⟩
   rw [show K.length+(r.length+1)=K.length+1+r.length by omega,h2,ZOL]
   constructor
   ·rintro ⟨g1,g2⟩;refine ⟨⟨fun hm=>g2 x hm (ZPE _ (ZOi.2 rfl)),g1⟩,fun y hy=>?_⟩
    rcases ZOt.1 hy with rfl | hy
    ·exact hk
    ·exact fun h=>g2 y hy (ZPm _ h)
   ·rintro ⟨⟨g1,g2⟩,g3⟩;refine ⟨g2,fun y hy hm=>?_⟩
    rcases ZOu.1 hm with h | h
    ·exact g3 y (ZOP _ hy) h
    ·rw [ZOi] at h;exact g1 (h▸hy)
theorem Zdg (l:List Str):Qv l=true↔l.Nodup∧∀ x∈l,Ha x=false:=by
 unfold Qv XH;rw [ZO2,beq_iff_eq,ZOn,ZPb];have h:=(Zdy l []).2;rw [ZOp,ZOf] at h;rw [show (((l.foldl (Qi Z3) []).length:Nat):Int)=(l.length:Int)↔(l.foldl (Qi Z3) []).length=l.length from by omega,h]
 constructor
 ·rintro ⟨⟨h1,_⟩,h2⟩;exact ⟨h1,fun x hx=>by simpa using h2 x hx⟩
 ·rintro ⟨h1,h2⟩;exact ⟨⟨h1,fun x _ h=>by cases h⟩,fun x hx=>by rw [h2 x hx];decide⟩
theorem Zep {s:Sta} {w:Wk} (ws:w.s=s) (hen:∀ x∈w.e.Lst.l,YO x.Number=true∧∃ (j:Nat) (d:Door),Zn s x.Id=((j:Nat):Int)∧s.Doors[j]? = some d∧Z3 d.Veil emp=true):
 ∀ (i k:Nat) (y:Door),(Yn s.Doors w.e.Lst.l i)[k]? = some y→∃ (d:Door) (n:HN),s.Doors[k]? = some d∧y=UP n d∧(n=d.Number∨(YO n=true∧Z3 d.Veil emp=true)):=by
 intro i;induction i with
 | zero=>intro k y hy;exact ⟨y,y.Number,hy,rfl,Or.inl rfl⟩
 | succ i ih=>
  intro k y hy;unfold Yn at hy;split at hy
  ·rename_i x hx;obtain ⟨hv,j,d,hj,hd,hve⟩:=hen x (ZOh hx);have hf:Kk (Yn s.Doors w.e.Lst.l i) x.Id=Zn s x.Id:=Z4o (HA _ _ _) _;rw [hf,hj,Zbz] at hy;by_cases hk:k=((j:Nat):Int).toNat
   ·rw [if_pos hk] at hy;obtain ⟨z,hz,rfl⟩:=ZOe.1 hy;obtain ⟨d',n,h1,rfl,_⟩:=ih _ z hz;have hkj:k=j:=by omega
    refine ⟨d',x.Number,by rw [hk];exact h1,rfl,Or.inr ⟨hv,?_⟩⟩
    rw [show ((j:Nat):Int).toNat=j by omega] at h1
    rw [hd] at h1;cases h1;exact hve
   ·rw [if_neg hk] at hy;exact ih k y hy
  ·exact ih k y hy
theorem Zdz {α:Type} (g:Door→α) (hg:∀ n d,g (UP n d)=g d) (D:List Door) (l:List Ent):∀ i,(Yn D l i).map g=D.map g
 | 0=>rfl
 | i+1=>by
  unfold Yn;split
  ·rw [FK g _ (fun d=>hg _ d)]
   exact Zdz g hg D l i
  ·exact Zdz g hg D l i
theorem Zeq {s:Sta} {a:Int} {e:Event} (h:Prop' s) (he:Q9 e=true) (hk:e.Kind=8) (h0:HD (wk0 s a e)=0):Prop' (NY (wk0 s a e)).s:=by
 have hn:(ZZ e.Id&&(ZD e.Lst.l.length 1 40&&(Xi e.Lst.l []&&Vk e.Lst.l true)))=true:=by have:=ZcV he;rw [ZcW hk] at this;exact this
 simp only [ZO2] at hn;have hid:e.Id≠emp:=by
  intro hc;have:=hn.1;rw [hc] at this;exact absurd this (by decide +kernel)
 have hlist:∀ x∈e.Lst.l,YO x.Number=true:=by
  have:=hn.2.2.1;unfold Xi at this;simp only [ZO2] at this;exact fun x hx=>ZO8.1 this.1 x hx
 have ws:(wk0 s a e).s=s:=rfl;have we:(wk0 s a e).e=e:=rfl;unfold HD at h0;rw [ws,we] at h0;cases c1:decide (ZL s e.Id < 0) with
 | true=>rw [c1] at h0;cases h0
 | false=>
 cases c2:e.Lst.l.any (Kj s) with
 | true=>rw [c1,c2] at h0;cases h0
 | false=>
 rw [c1,c2,Bool.or_false,cond_false] at h0;cases c5003:e.Lst.l.any (Hz (wk0 s a e)) with
 | true=>rw [c5003,ZPh] at h0;cases h0
 | false=>
 have hen:∀ x∈e.Lst.l,YO x.Number=true∧∃ (j:Nat) (d:Door),Zn s x.Id=((j:Nat):Int)∧s.Doors[j]? = some d∧Z3 d.Veil emp=true:=by
  intro x hx;have b1:Kj s x=false:=by simpa using ZPb.1 c2 x hx
  have b2:Hz (wk0 s a e) x=false:=by simpa using ZPb.1 c5003 x hx
  unfold Kj at b1;unfold Hz at b2;rw [ZPs] at b2;obtain ⟨j,d,hj,hd,_⟩:=ZcU (f:=fun d:Door=>d.Id) b1
  have hj':Zn s x.Id=(j:Int):=hj;refine ⟨hlist x hx,j,d,hj',hd,?_⟩;cases hv:Z3 d.Veil emp with
  | true=>rfl
  | false=>
   exfalso;have h1:=((Zd0 s j d).1 (h.dr j d hd)).2.2.2.2 hv;unfold NN at h1;simp only [ZO2] at h1;have h2:d.Street=emp:=(Ky _ _).1 h1.2.1;have h3:=b2.2;rw [ws,hj'] at h3;have h4:XP s (j:Int)=d.Street:=by simp [XP,hd]
   rw [h4,h2] at h3;rw [we] at h3;have h5:Z3 emp e.Id=true:=by simpa using h3
   exact hid ((Ky _ _).1 h5).symm
 have hI:=HA s.Doors e.Lst.l e.Lst.l.length;have hE:=Zdz (fun d:Door=>d.Ended) (fun _ _=>rfl) s.Doors e.Lst.l e.Lst.l.length
 have hform:=Zep (s:=s) (w:=wk0 s a e) rfl hen e.Lst.l.length;have ht:(NY (wk0 s a e)).s={ s with Doors:=Yn s.Doors e.Lst.l e.Lst.l.length }:=rfl
 rw [ht];have hF:∀ id,Zn { s with Doors:=Yn s.Doors e.Lst.l e.Lst.l.length } id=Zn s id:=fun id=>Zdc hI
 have hD:∀ j,QN { s with Doors:=Yn s.Doors e.Lst.l e.Lst.l.length } j=QN s j:=by
  intro j;have hm:((Yn s.Doors e.Lst.l e.Lst.l.length).map (fun d:Door=>d.Ended))[j.toNat]? = (s.Doors.map (fun d:Door=>d.Ended))[j.toNat]?:=by rw [hE]
  rw [ZOF,ZOF] at hm;unfold QN;rcases ZbU hm with ⟨x,y,h1,h2,h3⟩ | ⟨h1,h2⟩
  ·simp only [h1,h2,h3]
  ·simp only [h1,h2]
 refine ⟨h.rg,h.st,h.bu,fun i y hy=>?_,fun u hu=>?_,?_,ZcY h rfl rfl⟩
 ·obtain ⟨d,n,hd,rfl,hn2⟩:=hform i y hy;have h0:=h.dr i d hd;rw [Zd0] at h0 ⊢;obtain ⟨o1,o2,o3,o4,o5⟩:=h0;refine ⟨o1,fun id hid=>by rw [hF];exact o2 id hid,o3,fun hv=>?_,fun hv=>?_⟩
  ·obtain ⟨q1,q2⟩:=o4 hv;refine ⟨q1,?_⟩;rw [Zdm] at q2 ⊢;rcases hn2 with rfl | ⟨hv2,_⟩
   ·exact q2
   ·simp only [ZO2] at q2 ⊢;exact ⟨q2.1,hv2,q2.2.2⟩
  ·rcases hn2 with rfl | ⟨_,hv2⟩
   ·exact o5 hv
   ·rw [show (UP n d).Veil=d.Veil from rfl,hv2] at hv;cases hv
 ·exact Zdv (h.un u hu) (fun id _=>hF id) (fun _ _ hd=>by rw [hD];exact hd)
 ·have e1:=Zd8 (s:=s) (t:={ s with Doors:=Yn s.Doors e.Lst.l e.Lst.l.length }) rfl rfl rfl hI rfl
  rw [e1];exact h.ids
end Go.AM
namespace Go.AM
open Go
theorem ZdQ {α:Type} {f:α→Str} {l m:List α} {id:Str} (h:id ∉ l.map f) (hm:id∈m.map f):∃ (j:Nat) (x:α),look f (l++m) id=(j:Int)∧l.length≤j∧m[j - l.length]? = some x:=by
 have hin:id∈(l++m).map f:=by rw [ZOk];exact ZPE _ hm
 obtain ⟨y,hy,rfl⟩:=ZOr.1 hin;obtain ⟨j,x,h1,h2,h3⟩:=ZcU (Ze8 (f:=f) hy);have hj:l.length≤j:=by
  refine Nat.not_lt.1 (fun hl=>?_)
  rw [ZOz hl] at h2;exact h (by rw [←h3];exact ZP1 (ZOh h2))
 exact ⟨j,x,h1,hj,by rw [ZOA hj] at h2;exact h2⟩
theorem ZdR {s:Sta} {d:Door} (h:d∈s.Doors):d.Id∈Qp s:=by
 unfold Qp;simp only [ZOu];exact Or.inr (Or.inr (Or.inr (Or.inl (ZP1 h))))
theorem Zer {s:Sta} {u:Unit'} (h:u∈s.Units):u.Id∈Qp s:=by
 unfold Qp;simp only [ZOu];exact Or.inr (Or.inr (Or.inr (Or.inr (ZP1 h))))
theorem Zes {s:Sta} {id:Str} (h:decide (Y1 s id < 0)=false):id∈Qp s:=by
 obtain ⟨j,x,_,h2,rfl⟩:=ZcU (f:=fun b:Building=>b.Id) h
 unfold Qp;simp only [ZOu];exact Or.inr (Or.inr (Or.inl (ZP1 (ZOh h2))))
theorem Zet {s:Sta} {id:Str} (h:decide (ZL s id < 0)=false):id∈Qp s:=by
 obtain ⟨j,x,_,h2,rfl⟩:=ZcU (f:=fun b:Street=>b.Id) h
 unfold Qp;simp only [ZOu];exact Or.inr (Or.inl (ZP1 (ZOh h2)))
theorem ZdS {s:Sta} {a:Int} {e:Event} (ha:QM a 0 0=true) (he:Q9 e=true) {d:Door} {k:Nat} (h:Vr s k d=true) (hl:d.Ended=-1) (hv:Z3 d.Veil emp=true)
 {id:Str} {n:HN} {p:Pt} (hid:Ha id=false) (hk:id ∉ Qp s) (hn:YO n=true) (hp:gOn p=true) (i:Nat):
 Vr s i (Xl (wk0 s a e) ⟨id,d.Building,d.Street,0,n,p,0,0,⟨false,[]⟩,0,0,emp⟩)=true:=by
 rw [Zd0] at h ⊢;obtain ⟨_,_,_,o4,_⟩:=h;obtain ⟨q1,q2⟩:=o4 hv;rw [Zdd] at q1;obtain ⟨_,g2,g3,g4⟩:=q1;rw [Zdm] at q2;rw [ZO2,Zdg] at q2;obtain ⟨⟨n1,n2⟩,_⟩:=q2;refine ⟨Zd4 ha Zd7 (Zd1 he),fun x hx=>(by cases hx),by rfl,fun _=>⟨?_,?_⟩,fun hv2=>?_⟩
 ·rw [Zdd];exact ⟨rfl,g2,g3,fun _=>g4 hl⟩
 ·rw [Zdm];show (Qv [id,d.Building,d.Street]&&(YO n&&gOn p))=true
  have hb:Qv [id,d.Building,d.Street]=true:=by
   rw [Zdg];rw [ZOL] at n1;refine ⟨?_,fun x hx=>?_⟩
   ·rw [ZOL];refine ⟨fun hm=>?_,n1.2⟩
    rcases ZOt.1 hm with rfl | hm
    ·exact hk (Zes g2)
    ·rw [ZOi] at hm;subst hm;exact hk (Zet g3)
   ·rcases ZOt.1 hx with rfl | hx
    ·exact hid
    ·exact n2 x (ZOP _ hx)
  rw [hb,hn,hp];rfl
 ·rw [show Z3 (Xl (wk0 s a e) ⟨id,d.Building,d.Street,0,n,p,0,0,⟨false,[]⟩,0,0,emp⟩).Veil emp=true from rfl] at hv2;cases hv2
theorem ZdT {s:Sta} (h:Prop' s) {id:Str} (hk:id ∉ Qp s) (hb:Ha id=false):∀ u∈s.Units,Qv [u.Id,u.Door]=true→Qv [u.Id,id]=true:=by
 intro u hu hi;rw [Zdg] at hi ⊢;refine ⟨?_,fun x hx=>?_⟩
 ·rw [ZOL];refine ⟨fun hm=>?_,by simp⟩
  rw [ZOi] at hm;exact hk (hm▸Zer hu)
 ·rcases ZOt.1 hx with rfl | hx
  ·exact hi.2 _ (ZOv ..)
  ·rw [ZOi] at hx;subst hx;exact hb
theorem Zeu {s:Sta} {a:Int} {e:Event} (h:Prop' s) (ha:QM a 0 0=true) (he:Q9 e=true) (hk:e.Kind=9) (h0:Ka (wk0 s a e)=0):Prop' (Kb (wk0 s a e)).s:=by
 have hn:(ZD e.Lst.l.length 2 8&&(Xi e.Lst.l [e.Id]&&Vk e.Lst.l false))=true:=by have:=ZcV he;rw [ZcW hk] at this;exact this
 simp only [ZO2] at hn;obtain ⟨hn1,hn2,hn3⟩:=hn;unfold Xi at hn2;simp only [ZO2] at hn2;obtain ⟨hv,hi,_⟩:=hn2;rw [Zdg] at hi;have hid:(e.Lst.l.map (·.Id)).Nodup:=by
  have:=hi.1;rw [show [e.Id]++e.Lst.l.map Yd=e.Id::e.Lst.l.map (·.Id) from rfl,ZOL] at this
  exact this.2
 have hbn:∀ x∈e.Lst.l,Ha x.Id=false:=fun x hx=>hi.2 x.Id (ZPE _ (ZP1 (f:=Yd) hx))
 have hpt:∀ x∈e.Lst.l,gOn x.Point=true:=fun x hx=>by
  unfold Vk at hn3;rw [ZOn,ZPb] at hn3;have:=hn3 x hx;unfold Ux at this;simpa using this
 have ws:(wk0 s a e).s=s:=rfl;have we:(wk0 s a e).e=e:=rfl;unfold Ka at h0;rw [ws,we] at h0;cases c1:WO (wk0 s a e) e.Lst.l with
 | false=>rw [c1] at h0;cases h0
 | true=>
 cases c2:decide (Zn s e.Id < 0) with
 | true=>rw [c1,c2] at h0;cases h0
 | false=>
 cases c5003:QN s (Zn s e.Id) != -1 with
 | true=>rw [c1,c2,c5003] at h0;cases h0
 | false=>
 cases c5004:Z3 (Vu s (Zn s e.Id)) emp with
 | false=>rw [c1,c2,c5003,c5004] at h0;cases h0
 | true=>
 have hnew:∀ x∈e.Lst.l,x.Id ∉ Qp s:=fun x hx=>by
  unfold WO at c1;rw [QE] at c1;have:=ZO8.1 c1 x hx;exact Zd2 (by simpa using this)
 obtain ⟨k,d,hj,hd,_⟩:=ZcU (f:=fun d:Door=>d.Id) c2
 have hj':Zn s e.Id=(k:Int):=hj;have hl:d.Ended=-1:=by
  rw [hj'] at c5003;have:QN s (k:Int)=d.Ended:=by simp [QN,hd]
  rw [this] at c5003;exact Zah c5003
 have hve:Z3 d.Veil emp=true:=by
  rw [hj'] at c5004;have:Vu s (k:Int)=d.Veil:=by simp [Vu,hd]
  rw [this] at c5004;exact c5004
 have hkn:((k:Nat):Int).toNat=k:=by omega
 have ht:Kb (wk0 s a e)=Qf (Y5 (wk0 s a e) d e.Lst.l) k ⟨false,e.Lst.l.map (·.Id)⟩:=by
  unfold Kb;rw [ws,we,hj',hkn,hd]
 rw [ht];have h1:Prop' (Y5 (wk0 s a e) d e.Lst.l).s:=by
  refine ZdL h (fun y hy i=>?_) ?_ (fun y hy=>?_)
  ·obtain ⟨x,hx,rfl⟩:=ZOr.1 hy;exact ZdS ha he (h.dr k d hd) hl hve (hbn x hx) (hnew x hx) (ZO8.1 hv x hx) (hpt x hx) i
  ·rw [ZOU];exact hid
  ·obtain ⟨x,hx,rfl⟩:=ZOr.1 hy;exact hnew x hx
 have hkl:=(ZO7.1 hd).1;have hlook:∀ id∈e.Lst.l.map (·.Id),∃ (j:Nat) (x:Door),Zn (Y5 (wk0 s a e) d e.Lst.l).s id=(j:Int)∧s.Doors.length≤j∧(e.Lst.l.map (fun x=>Xl (wk0 s a e) (Hr d x)))[j - s.Doors.length]? = some x:=by
  intro id hid2;obtain ⟨z,hz,rfl⟩:=ZOr.1 hid2;refine ZdQ (f:=fun d:Door=>d.Id) (fun hm=>hnew z hz ?_) ?_
  ·obtain ⟨d2,hd2,e2⟩:=ZOr.1 hm;rw [←e2];exact ZdR hd2
  ·rw [ZOU];exact ZP1 (f:=fun x:Ent=>x.Id) hz
 have hday:=Zd1 he;refine Zdp (w:=Y5 (wk0 s a e) d e.Lst.l) (k:=k) (x:=d) h1 ?_ hday ?_ (fun id hid2=>?_) (fun hnil=>?_) (fun id r hc=>?_)
 ·show (s.Doors++_)[k]? = some d
  rw [ZOz hkl];exact hd
 ·show UC (UF e ⟨false,e.Lst.l.map (·.Id)⟩ d)=false
  have e1:exD (UF e ⟨false,e.Lst.l.map (·.Id)⟩ d)=false:=by
   show (e.Day==-1)=false
   exact beq_eq_false_iff_ne.2 (Zd5 hday)
  have e2:((UF e ⟨false,e.Lst.l.map (·.Id)⟩ d).Why==0)=false:=by show (e.Kind==0)=false;rw [hk];rfl
  have e3:He (UF e ⟨false,e.Lst.l.map (·.Id)⟩ d)=true:=by
   unfold He;show (bif e.Kind==12 then _ else bif e.Kind==11 then _ else bif e.Kind==9 then ZD (((e.Lst.l.map (·.Id)).length:Nat):Int) 2 8&&Z3 d.Veil emp else _)=true
   rw [hk,ZO3];show (ZD (e.Lst.l.length:Int) 2 8&&Z3 d.Veil emp)=true
   rw [hn1,hve];rfl
  have e4:Jq (UF e ⟨false,e.Lst.l.map (·.Id)⟩ d).After.l=true:=(Zdk _).2 hid;unfold UC;rw [e1,e2,e3,e4];rfl
 ·obtain ⟨j,x,g1,g2,_⟩:=hlook id hid2;rw [g1];exact decide_eq_false (by omega)
 ·have:e.Lst.l.length=0:=by
   have h5:(e.Lst.l.map (·.Id)).length=0:=by rw [show e.Lst.l.map (·.Id)=[] from hnil];rfl
   rwa [ZO3] at h5
  rw [this] at hn1;exact absurd hn1 (by decide)
 ·have hm:id∈e.Lst.l.map (·.Id):=by rw [show e.Lst.l.map (·.Id)=id::r from hc];exact ZOv ..
  obtain ⟨j,x,g1,g2,g3⟩:=hlook id hm;obtain ⟨z,hz,hz2⟩:=ZOr.1 hm;refine ⟨?_,?_⟩
  ·rw [g1];have hx:(Y5 (wk0 s a e) d e.Lst.l).s.Doors[((j:Nat):Int).toNat]? = some x:=by
    rw [show ((j:Nat):Int).toNat=j by omega]
    show (s.Doors++_)[j]? = some x
    rw [ZOA g2];exact g3
   unfold QN;rw [hx];obtain ⟨y,_,rfl⟩:=ZOr.1 (ZOh g3);rfl
  ·have hz3:z.Id=id:=hz2;exact ZdT h (by rw [←hz3];exact hnew z hz) (by rw [←hz3];exact hbn z hz)
end Go.AM
namespace Go.AM
open Go
theorem ZdU {w:Wk} {k:Nat} {x:Door} {a:NL Str} (hx:w.s.Doors[k]? = some x):Qf w k a={ w with s:={ w.s with Doors:=ZK w.s.Doors k (UF w.e a),Units:=UH w.e x.Id a w.s.Units } }:=by
 unfold Qf;rw [hx];rfl
theorem ZdA {e:Event} {a:NL Str} {d:Door} (hday:ZD e.Day 0 100000=true) (hk:e.Kind≠0) (ht:He (UF e a d)=true) (hs:a.l.Nodup):UC (UF e a d)=false:=by
 have e1:exD (UF e a d)=false:=by
  show (e.Day==-1)=false
  exact beq_eq_false_iff_ne.2 (Zd5 hday)
 have e2:((UF e a d).Why==0)=false:=by
  show (e.Kind==0)=false
  exact beq_eq_false_iff_ne.2 hk
 have e4:Jq (UF e a d).After.l=true:=(Zdk _).2 hs;unfold UC;rw [e1,e2,ht,e4];rfl
theorem ZdV {id:Str} {n0:Nat}:∀ (l:List Int) (w:Wk),Prop' w.s→w.e.Kind=10→ZD w.e.Day 0 100000=true→l.Nodup→
 (∀ k∈l,0≤k∧k < n0∧∃ x:Door,w.s.Doors[k.toNat]? = some x∧Z3 x.Veil emp=true)→(n0:Int)≤Zn w.s id→QN w.s (Zn w.s id)=-1→
 (∀ u∈w.s.Units,Qv [u.Id,u.Door]=true→Qv [u.Id,id]=true)→Prop' (Yg w l ⟨false,[id]⟩).s
 | [],w,h,_,_,_,_,_,_,_=>h
 | k::r,w,h,hk,hday,hn,hl,hf,hd,hu=>by
  obtain ⟨k0,k1,x,hx,hv⟩:=hl k (ZOv ..);rw [ZOL] at hn;have hA:(⟨false,[id]⟩:NL Str).l=[id]:=rfl;have hend:UC (UF w.e ⟨false,[id]⟩ x)=false:=by
   refine ZdA hday (by rw [hk];decide) ?_ (by simp)
   unfold He;show (bif w.e.Kind==12 then _ else bif w.e.Kind==11 then _ else bif w.e.Kind==9 then _ else bif w.e.Kind==10 then (1:Int)==1&&Z3 x.Veil emp else false)=true
   rw [hk];show ((1:Int)==1&&Z3 x.Veil emp)=true
   rw [hv];rfl
  have h1:=Zdp (w:=w) (k:=k.toNat) (x:=x) (a:=⟨false,[id]⟩) h hx hday hend
   (fun i hi=>by
    rw [hA,ZOi] at hi;subst hi;exact decide_eq_false (by omega))
   (fun hc=>by cases hc)
   (fun i q hc=>by
    have hc':[id]=i::q:=hc;cases hc';exact ⟨hd,hu⟩)
  have hform:=ZdU (a:=⟨false,[id]⟩) hx;have hF:Zn (Qf w k.toNat ⟨false,[id]⟩).s id=Zn w.s id:=by
   rw [hform];exact Zdc (FK (fun d:Door=>d.Id) (UF w.e ⟨false,[id]⟩) (fun _=>rfl) _ _)
  refine ZdV r (Qf w k.toNat ⟨false,[id]⟩) h1 (by rw [hform];exact hk) (by rw [hform];exact hday) hn.2 (fun k' hk'=>?_) (by rw [hF];exact hf) ?_ ?_
  ·obtain ⟨a0,a1,y,hy,hvy⟩:=hl k' (ZOP _ hk');refine ⟨a0,a1,y,?_,hvy⟩;rw [hform];show (ZK w.s.Doors k.toNat _)[k'.toNat]? = some y
   have hne:k'.toNat≠k.toNat:=by
    intro e;have:k'=k:=by omega
    exact hn.1 (this▸hk')
   rw [Zbz,if_neg hne];exact hy
  ·rw [hF,hform];refine (ZdO ?_).trans hd;show (ZK w.s.Doors k.toNat _)[(Zn w.s id).toNat]? = _
   rw [Zbz,if_neg (by omega)]
  ·rw [hform];intro u hu2 hi;obtain ⟨v,hv2,rfl⟩:=ZOr.1 hu2;revert hi;unfold XO;cases Z3P x.Id v with
   | false=>exact fun hi=>hu v hv2 hi
   | true=>exact fun hi=>hi
theorem Zev {s:Sta} {a:Int} {e:Event} (h:Prop' s) (ha:QM a 0 0=true) (he:Q9 e=true) (hk:e.Kind=10) (h0:Kc (wk0 s a e)=0):Prop' (Kd (wk0 s a e)).s:=by
 have hn:(ZD e.Ids.l.length 2 8&&(Qv (e.Id::e.Ids.l)&&(YO e.Number&&gOn e.Point)))=true:=by have:=ZcV he;rw [ZcW hk] at this;exact this
 simp only [ZO2] at hn;obtain ⟨hn1,hn2,hn3,hn4⟩:=hn;rw [Zdg,ZOL] at hn2;have ws:(wk0 s a e).s=s:=rfl;have we:(wk0 s a e).e=e:=rfl;unfold Kc at h0;rw [ws,we] at h0;cases c1:twB (wk0 s a e) e.Id with
 | true=>rw [c1] at h0;cases h0
 | false=>
 cases c2:(Zf (wk0 s a e)).any (fun x=>-1==x) with
 | true=>rw [c1,c2] at h0;cases h0
 | false=>
 rw [c1,c2,cond_false,cond_false,QE] at h0;cases c5003:(Zf (wk0 s a e)).all (fun k=>JG s (XP s ((Zf (wk0 s a e)).headD 0)) k) with
 | false=>rw [c5003] at h0;cases h0
 | true=>
 have hnew:=Zd2 c1;have hat:∀ k∈Zf (wk0 s a e),∃ (j:Nat) (x:Door),k=(j:Int)∧s.Doors[j]? = some x∧x.Ended=-1∧Z3 x.Veil emp=true:=by
  intro k hkm;obtain ⟨id,hid,hkid⟩:=ZOr.1 hkm;have hne:Zn s id≠-1:=by
   intro hc;have:=ZPb.1 c2 k hkm;rw [←hkid] at this;exact this (by rw [show Zn (wk0 s a e).s id=-1 from hc];rfl)
  have hf:decide (Zn s id < 0)=false:=by
   cases hc:decide (Zn s id < 0) with
   | false=>rfl
   | true=>exact absurd (Ze7 (f:=fun d:Door=>d.Id) hc) hne
  obtain ⟨j,x,h1,h2,_⟩:=ZcU (f:=fun d:Door=>d.Id) hf
  have h1':Zn s id=(j:Int):=h1;have hj:k=(j:Int):=hkid.symm.trans h1';have ho:=ZO8.1 c5003 k hkm;rw [hj] at ho;unfold JG at ho;have d1:QN s (j:Int)=x.Ended:=by simp [QN,h2]
  have d2:Vu s (j:Int)=x.Veil:=by simp [Vu,h2]
  rw [d1,d2] at ho;simp at ho;exact ⟨j,x,hj,h2,ho.1.1,ho.1.2⟩
 have hnd:(Zf (wk0 s a e)).Nodup:=by
  have key:∀ l:List Str,(∀ id∈l,Zn s id∈Zf (wk0 s a e))→l.Nodup→(l.map (fun id=>Zn s id)).Nodup:=by
   intro l;induction l with
   | nil=>intro _ _;exact ZPC
   | cons id r ih=>
    intro hm hnn;rw [ZOL] at hnn;rw [ZOb,ZOL];refine ⟨fun hc=>?_,ih (fun i hi=>hm i (ZOP _ hi)) hnn.2⟩
    obtain ⟨id2,hid2,hc2⟩:=ZOr.1 hc;have f1:decide (Zn s id < 0)=false:=by
     obtain ⟨j,_,hj,_⟩:=hat _ (hm id (ZOv ..));exact decide_eq_false (by omega)
    have f2:decide (Zn s id2 < 0)=false:=by
     obtain ⟨j,_,hj,_⟩:=hat _ (hm id2 (ZOP _ hid2));exact decide_eq_false (by omega)
    obtain ⟨j1,x1,g1,g2,g3⟩:=ZcU (f:=fun d:Door=>d.Id) f1
    obtain ⟨j2,x2,g4,g5,g6⟩:=ZcU (f:=fun d:Door=>d.Id) f2
    have g1':Zn s id=(j1:Int):=g1;have g4':Zn s id2=(j2:Int):=g4;have hj:j1=j2:=by omega
    subst hj;rw [g2] at g5;cases g5;exact hnn.1 ((g3.symm.trans g6)▸hid2)
  exact key e.Ids.l (fun id hid=>ZP1 (f:=fun id=>Zn s id) hid) hn2.1.2
 have hday:=Zd1 he;obtain ⟨k0,r,hats⟩:∃ k0 r,Zf (wk0 s a e)=k0::r:=by
  cases hA:Zf (wk0 s a e) with
  | cons k0 r=>exact ⟨k0,r,rfl⟩
  | nil=>
   exfalso;have h5:e.Ids.l.length=0:=by
    have:(Zf (wk0 s a e)).length=e.Ids.l.length:=ZO3 _;rw [←this,hA];rfl
   rw [h5] at hn1;exact absurd hn1 (by decide)
 obtain ⟨j0,d,hj0,hd,hl,hve⟩:=hat k0 (by rw [hats];exact ZOv ..)
 have hhd:((Zf (wk0 s a e)).headD 0).toNat=j0:=by
  rw [hats];show k0.toNat=j0
  omega
 have ht:Kd (wk0 s a e)=Yg (Qw (wk0 s a e) (WP (wk0 s a e) d)) (Zf (wk0 s a e)) ⟨false,[e.Id]⟩:=by
  unfold Kd;rw [hhd,ws,hd];rfl
 rw [ht];have h1:Prop' (Qw (wk0 s a e) (WP (wk0 s a e) d)).s:=
  Zdx h (fun i=>ZdS ha he (h.dr j0 d hd) hl hve (hn2.2 _ (ZOv ..)) hnew hn3 hn4 i) c1
 obtain ⟨j,x,g1,g2,g3⟩:=ZdQ (f:=fun d:Door=>d.Id) (l:=s.Doors) (m:=[Xl (wk0 s a e) (WP (wk0 s a e) d)]) (id:=e.Id)
  (fun hm=>hnew (by obtain ⟨d2,hd2,e2⟩:=ZOr.1 hm;rw [←e2];exact ZdR hd2)) (ZOi.2 rfl)
 have g1':Zn (Qw (wk0 s a e) (WP (wk0 s a e) d)).s e.Id=(j:Int):=g1;refine ZdV (n0:=s.Doors.length) (Zf (wk0 s a e)) (Qw (wk0 s a e) (WP (wk0 s a e) d)) h1 hk hday hnd (fun k hkm=>?_) (by rw [g1'];omega) ?_ (ZdT h hnew (hn2.2 _ (ZOv ..)))
 ·obtain ⟨i,y,e1,e2,_,e4⟩:=hat k hkm;have hil:=(ZO7.1 e2).1;refine ⟨by omega,by omega,y,?_,e4⟩
  show (s.Doors++_)[k.toNat]? = some y
  rw [show k.toNat=i by omega,ZOz hil]
  exact e2
 ·rw [g1'];have hx:(Qw (wk0 s a e) (WP (wk0 s a e) d)).s.Doors[((j:Nat):Int).toNat]? = some x:=by
   rw [show ((j:Nat):Int).toNat=j by omega]
   show (s.Doors++_)[j]? = some x
   rw [ZOA g2];exact g3
  unfold QN;rw [hx];have:=ZOh g3;rw [ZOi] at this;subst this;rfl
end Go.AM
namespace Go.AM
open Go
theorem ZdW (w:Wk) (B:List Building) (l:List Door):∀ i,Y6 (JH w B) l i=JH (Y6 w l i) B
 | 0=>rfl
 | i+1=>by
  have ih:=ZdW w B l i;unfold Y6;split
  ·rename_i x hx;have e1:(JH w B).e.Id=w.e.Id:=rfl;rw [e1];cases NV w.e.Id x with
   | false=>exact ih
   | true=>
    rw [cond_true,cond_true,ih];unfold Qf;show (match (Y6 w l i).s.Doors[i]? with | some x=>_ | none=>_)=_
    cases (Y6 w l i).s.Doors[i]? with
    | none=>rfl
    | some y=>rfl
  ·exact ih
theorem ZdX {w:Wk} (h:Prop' w.s) (hk:w.e.Kind=11) (hday:ZD w.e.Day 0 100000=true) (hid:w.e.Id≠emp):∀ i,
 Prop' (Y6 w w.s.Doors i).s∧(Y6 w w.s.Doors i).e=w.e∧(Y6 w w.s.Doors i).s.Buildings=w.s.Buildings∧(∀ j,i≤j→(Y6 w w.s.Doors i).s.Doors[j]? = w.s.Doors[j]?)∧
 (∀ j x,j < i→(Y6 w w.s.Doors i).s.Doors[j]? = some x→x.Building=w.e.Id→x.Ended≠-1)
 | 0=>⟨h,rfl,rfl,fun _ _=>rfl,fun j x hj=>absurd hj (Nat.not_lt_zero _)⟩
 | i+1=>by
  obtain ⟨h1,h2,h3,h4,h5⟩:=ZdX h hk hday hid i;have hrec:∀ x,w.s.Doors[i]? = some x→Y6 w w.s.Doors (i+1)=bif NV w.e.Id x then Qf (Y6 w w.s.Doors i) i ⟨false,[]⟩ else Y6 w w.s.Doors i:=fun x hx=>by
   show (match w.s.Doors[i]? with | some x=>_ | none=>_)=_
   rw [hx]
  cases hx:w.s.Doors[i]? with
  | none=>
   have e1:Y6 w w.s.Doors (i+1)=Y6 w w.s.Doors i:=by
    show (match w.s.Doors[i]? with | some x=>_ | none=>_)=_
    rw [hx]
   rw [e1];refine ⟨h1,h2,h3,fun j hj=>h4 j (by omega),fun j x hj hjx=>?_⟩
   by_cases hji:j=i
   ·subst hji;rw [h4 j (ZO4 _),hx] at hjx;cases hjx
   ·exact h5 j x (by omega) hjx
  | some x=>
   rw [hrec x hx];cases hh:NV w.e.Id x with
   | false=>
    rw [cond_false];refine ⟨h1,h2,h3,fun j hj=>h4 j (by omega),fun j y hj hjy hb=>?_⟩
    by_cases hji:j=i
    ·subst hji;rw [h4 j (ZO4 _),hx] at hjy;cases hjy;intro he;unfold NV at hh;rw [hb,he,(Ky _ _).2 rfl] at hh;cases hh
    ·exact h5 j y (by omega) hjy hb
   | true=>
    rw [cond_true];have hxi:(Y6 w w.s.Doors i).s.Doors[i]? = some x:=by rw [h4 i (ZO4 _)];exact hx
    unfold NV at hh;rw [ZO2,Ky] at hh;have hve:Z3 x.Veil emp=true:=by
     cases hv:Z3 x.Veil emp with
     | true=>rfl
     | false=>
      exfalso;have q:=((Zd0 _ i x).1 (h1.dr i x hxi)).2.2.2.2 hv;unfold NN at q;simp only [ZO2] at q;exact hid (hh.1.symm.trans ((Ky _ _).1 q.1))
    have hend:UC (UF (Y6 w w.s.Doors i).e ⟨false,[]⟩ x)=false:=by
     rw [h2];refine ZdA hday (by rw [hk];decide) ?_ ZPC
     unfold He;show (bif w.e.Kind==12 then _ else bif w.e.Kind==11 then (0:Int)==0&&Z3 x.Veil emp else _)=true
     rw [hk];show ((0:Int)==0&&Z3 x.Veil emp)=true
     rw [hve];rfl
    have hform:=ZdU (a:=⟨false,[]⟩) hxi;refine ⟨Zdp h1 hxi (by rw [h2];exact hday) hend (fun id hc=>(by cases hc)) (fun _=>Or.inr (by rw [h2];exact hk)) (fun id r hc=>(by cases hc)),by rw [hform];exact h2,by rw [hform];exact h3,fun j hj=>?_,fun j y hj hjy hb=>?_⟩
    ·rw [hform];show (ZK (Y6 w w.s.Doors i).s.Doors i _)[j]? = _
     rw [Zbz,if_neg (by omega)]
     exact h4 j (by omega)
    ·rw [hform] at hjy;have hjy':(ZK (Y6 w w.s.Doors i).s.Doors i (UF (Y6 w w.s.Doors i).e ⟨false,[]⟩))[j]? = some y:=hjy;rw [Zbz] at hjy';by_cases hji:j=i
     ·rw [if_pos hji,hxi] at hjy';cases hjy';show (Y6 w w.s.Doors i).e.Day≠-1
      rw [h2];exact Zd5 hday
     ·rw [if_neg hji] at hjy';exact h5 j y (by omega) hjy' hb
theorem Zew {e:Event} (hday:ZD e.Day 0 100000=true) {x:Building} (h:Vq x=true):Vq (Ke e x)=true:=by
 unfold Vq at h ⊢;rw [ZdJ] at h ⊢;rw [ZO2] at h ⊢;refine ⟨?_,h.2⟩;have h1:=h.1;unfold QM at h1 ⊢;simp only [ZO2] at h1 ⊢;exact ⟨h1.1,Zde hday,h1.2.2⟩
theorem Zex {s:Sta} {a:Int} {e:Event} (h:Prop' s) (he:Q9 e=true) (hk:e.Kind=11) (h0:Hs (wk0 s a e)=0):Prop' (Ht (wk0 s a e)).s:=by
 have hn:ZZ e.Id=true:=by have:=ZcV he;rw [ZcW hk] at this;exact this
 have hid:e.Id≠emp:=by
  intro hc;rw [hc] at hn;exact absurd hn (by decide +kernel)
 have hday:=Zd1 he;have ws:(wk0 s a e).s=s:=rfl;have we:(wk0 s a e).e=e:=rfl;unfold Hs at h0;rw [ws,we] at h0;cases c1:decide (Y1 s e.Id < 0) with
 | true=>rw [c1] at h0;cases h0
 | false=>
 obtain ⟨k,b,hj,hb,hbid⟩:=ZcU (f:=fun b:Building=>b.Id) c1
 have hj':Y1 s e.Id=(k:Int):=hj;obtain ⟨h1,h2,h3,h4,h5⟩:=ZdX (w:=wk0 s a e) h hk hday hid s.Doors.length;have ht:Ht (wk0 s a e)=JH (Y6 (wk0 s a e) s.Doors s.Doors.length) (ZK s.Buildings k (Ke e)):=by
  unfold Ht;rw [ws,we,hj',show ((k:Nat):Int).toNat=k by omega]
  exact ZdW _ _ _ _
 rw [ht];have h3':(Y6 (wk0 s a e) s.Doors s.Doors.length).s.Buildings=s.Buildings:=h3;have h5':∀ (j:Nat) (x:Door),(Y6 (wk0 s a e) s.Doors s.Doors.length).s.Doors[j]? = some x→x.Building=e.Id→x.Ended≠-1:=by
  intro j x hjx hbx;by_cases hl:j < s.Doors.length
  ·exact h5 j x hl hjx hbx
  ·have:=h4 j (Nat.not_lt.1 hl);rw [show (Y6 (wk0 s a e) (wk0 s a e).s.Doors s.Doors.length)=Y6 (wk0 s a e) s.Doors s.Doors.length from rfl,hjx] at this
   have hnone:s.Doors[j]? = none:=ZQj.2 (Nat.not_lt.1 hl);rw [ws,hnone] at this;cases this
 have h1':Prop' (Y6 (wk0 s a e) s.Doors s.Doors.length).s:=h1;generalize Y6 (wk0 s a e) s.Doors s.Doors.length=w1 at *;have hI:(ZK s.Buildings k (Ke e)).map (·.Id)=w1.s.Buildings.map (·.Id):=by rw [h3'];exact FK (fun x:Building=>x.Id) (Ke e) (fun _=>rfl) _ _
 refine ⟨h1'.rg,h1'.st,fun x hx=>?_,fun i d hd=>?_,h1'.un,?_,ZcY h1' rfl rfl⟩
 ·have:=ZO8.1 (ZbB (P:=Vq) (k:=k) (f:=Ke e) (ZO8.2 h.bu) (fun x hx=>Zew hday hx)) x hx
  exact this
 ·have hd':w1.s.Doors[i]? = some d:=hd;refine Zd6 (h1'.dr i d hd') (fun _ _=>rfl) (fun id _=>Zdc hI) (fun _ _=>rfl) (fun hE _ hf hb2=>?_) (fun _ _ _ h=>h)
  obtain ⟨j,y,g1,g2,g3⟩:=ZcU (f:=fun b:Building=>b.Id) hf
  have g1':Y1 w1.s d.Building=(j:Int):=g1;rw [h3'] at g2;have hne:j≠k:=by
   intro hjk;subst hjk;rw [hb] at g2;cases g2;exact h5' i d hd' (g3.symm.trans hbid) hE
  rw [g1'] at hb2 ⊢;unfold WL at hb2 ⊢;rw [show ((j:Nat):Int).toNat=j by omega] at hb2 ⊢
  have e1:(JH w1 (ZK s.Buildings k (Ke e))).s.Buildings[j]? = w1.s.Buildings[j]?:=by
   show (ZK s.Buildings k (Ke e))[j]? = _
   rw [Zbz,if_neg hne,h3']
  rw [e1];exact hb2
 ·have e1:=Zd8 (s:=w1.s) (t:=(JH w1 (ZK s.Buildings k (Ke e))).s) rfl rfl hI rfl rfl;rw [e1];exact h1'.ids
end Go.AM
namespace Go.AM
open Go
theorem Zey {s:Sta} {a:Int} {e:Event} (h:Prop' s) (he:Q9 e=true) (hk:e.Kind=12) (h0:Hw (wk0 s a e)=0):Prop' (Hy (wk0 s a e)).s:=by
 have hday:=Zd1 he;have ws:(wk0 s a e).s=s:=rfl;have we:(wk0 s a e).e=e:=rfl;have hown:∀ {o c:Int},QM o c 0=true→QM o e.Day 0=true:=fun {o c} h1=>by
  unfold QM at h1 ⊢;simp only [ZO2] at h1 ⊢;exact ⟨h1.1,Zde hday,h1.2.2⟩
 unfold Hw at h0;unfold Hy;rw [ws,we] at h0 ⊢;cases c1:Kg s e.Id with
 | true=>
  have hI:(ZK s.Regions (Qo s e.Id).toNat (UL e)).map (·.Id)=s.Regions.map (·.Id):=FK (fun x:Region=>x.Id) (UL e) (fun _=>rfl) _ _
  rw [cond_true];refine ⟨fun x hx=>?_,h.st,h.bu,fun i d hd=>h.dr i d hd,h.un,?_,ZcY h rfl rfl⟩
  ·refine ZO8.1 (ZbB (P:=Vo) (ZO8.2 h.rg) (fun x hx=>?_)) x hx
   unfold Vo at hx ⊢;rw [Zdu] at hx ⊢;rw [ZO2] at hx ⊢;exact ⟨hown hx.1,hx.2⟩
  ·have e1:=Zd8 (s:=s) (t:=(Hu (wk0 s a e) (ZK s.Regions (Qo s e.Id).toNat (UL e))).s) hI rfl rfl rfl rfl;rw [e1];exact h.ids
 | false=>
 rw [c1,cond_false] at h0;rw [cond_false];cases c2:Kh s e.Id with
 | true=>
  rw [c2,cond_true] at h0;rw [cond_true];have hon:Kf s e.Id=false:=by
   cases hc:Kf s e.Id with
   | false=>rfl
   | true=>rw [hc] at h0;cases h0
  unfold Kh at c2;rw [ZO2,ZOn] at c2;obtain ⟨k,z,g1,g2,g3⟩:=ZcU (f:=fun x:Street=>x.Id) c2.1
  have g1':ZL s e.Id=(k:Int):=g1;rw [g1',show ((k:Nat):Int).toNat=k by omega]
  have hI:(ZK s.Streets k (UM e)).map (·.Id)=s.Streets.map (·.Id):=FK (fun x:Street=>x.Id) (UM e) (fun _=>rfl) _ _
  refine ⟨h.rg,fun x hx=>?_,h.bu,fun i d hd=>?_,h.un,?_,ZcY h rfl rfl⟩
  ·refine ZO8.1 (ZbB (P:=Vp) (ZO8.2 h.st) (fun x hx=>?_)) x hx
   unfold Vp at hx ⊢;rw [ZdI] at hx ⊢;rw [ZO2] at hx ⊢;exact ⟨hown hx.1,hx.2⟩
  ·have hd':s.Doors[i]? = some d:=hd;refine Zd6 (h.dr i d hd') (fun _ _=>rfl) (fun _ _=>rfl) (fun id _=>Zdc hI) (fun _ _ _ h=>h) (fun hE _ hf hs2=>?_)
   obtain ⟨j,y,q1,q2,q3⟩:=ZcU (f:=fun x:Street=>x.Id) hf
   have q1':ZL s d.Street=(j:Int):=q1;have hne:j≠k:=by
    intro hjk;subst hjk;rw [g2] at q2;cases q2;have h9:=ZPb.1 hon d (ZOh hd');exact h9 (by rw [show Z3 d.Street e.Id=true from (Ky _ _).2 (q3.symm.trans g3),hE];rfl)
   rw [q1'] at hs2 ⊢;unfold QF at hs2 ⊢;rw [show ((j:Nat):Int).toNat=j by omega] at hs2 ⊢
   have e1:(Hv (wk0 s a e) (ZK s.Streets k (UM e))).s.Streets[j]? = s.Streets[j]?:=by
    show (ZK s.Streets k (UM e))[j]? = _
    rw [Zbz,if_neg hne]
   rw [e1];exact hs2
  ·have e1:=Zd8 (s:=s) (t:=(Hv (wk0 s a e) (ZK s.Streets k (UM e))).s) rfl hI rfl rfl rfl;rw [e1];exact h.ids
 | false=>
 rw [c2,cond_false] at h0;rw [cond_false];cases c5003:Ki s e.Id with
 | true=>
  rw [cond_true];unfold Ki at c5003;rw [ZO2,ZOn] at c5003;obtain ⟨k,x,g1,g2,g3⟩:=ZcU (f:=fun x:Door=>x.Id) c5003.1
  have g1':Zn s e.Id=(k:Int):=g1;rw [g1',show ((k:Nat):Int).toNat=k by omega]
  refine Zdp (w:=wk0 s a e) h g2 hday ?_ (fun id hc=>(by cases hc)) (fun _=>Or.inl hk) (fun id r hc=>(by cases hc))
  refine ZdA hday (by rw [we,hk];decide) ?_ ZPC
  unfold He;show (bif e.Kind==12 then (0:Int)==0 else _)=true
  rw [hk];rfl
 | false=>
 rw [c5003,cond_false] at h0;rw [cond_false];cases c5004:UO s e.Id with
 | false=>
  rw [c5004,cond_false] at h0;cases hz:twB (wk0 s a e) e.Id&&decide (Y1 s e.Id < 0) with
  | true=>rw [hz] at h0;cases h0
  | false=>rw [hz] at h0;cases h0
 | true=>
  have hI:(ZK s.Units (Wf s e.Id).toNat (UN e)).map (·.Id)=s.Units.map (·.Id):=FK (fun x:Unit'=>x.Id) (UN e) (fun _=>rfl) _ _
  refine ⟨h.rg,h.st,h.bu,fun i d hd=>h.dr i d hd,fun u hu=>?_,?_,ZcY h rfl rfl⟩
  ·refine ZO8.1 (ZbB (P:=Vs s) (ZO8.2 h.un) (fun x hx=>?_)) u hu
   rw [Zdl] at hx ⊢;obtain ⟨o1,o2,o3,o4,o5⟩:=hx;refine ⟨o1,?_,o3,fun hE=>absurd hE (Zd5 hday),fun _=>Or.inl hk⟩
   show QM 0 e.Day x.From=true
   unfold QM at o2 ⊢;simp only [ZO2] at o2 ⊢;exact ⟨o2.1,Zde hday,o2.2.2⟩
  ·have e1:=Zd8 (s:=s) (t:=(Qx (wk0 s a e) (ZK s.Units (Wf s e.Id).toNat (UN e))).s) rfl rfl rfl rfl hI;rw [e1];exact h.ids
def itT (s:Sta):Nat→Int→Int
 | 0,x=>x
 | n+1,x=>itT s n (XJ s x)
theorem Zdq (s:Sta):∀ n x,itT s (n+1) x=XJ s (itT s n x)
 | 0,_=>rfl
 | n+1,x=>Zdq s n (XJ s x)
theorem Zdh (s:Sta) (m:Nat) (x:Int):∀ n,itT s (m+n) x=itT s n (itT s m x)
 | 0=>rfl
 | n+1=>by rw [show m+(n+1)=(m+n)+1 by omega,Zdq,Zdh s m x n,Zdq]
theorem ZdY (s:Sta):∀ n x,chN s n x=true↔∃ j,j≤n∧itT s j x < 0
 | 0,x=>by
  unfold chN;rw [ZOn,decide_eq_false_iff_not];exact ⟨fun h=>⟨0,ZO4 _,by show x < 0;omega⟩,fun ⟨j,h1,h2⟩=>by
   have:j=0:=by omega
   subst this;have:x < 0:=h2;omega⟩
 | n+1,x=>by
  unfold chN;cases hx:decide (x ≥ 0) with
  | false=>
   rw [cond_false];exact ⟨fun _=>⟨0,ZO5 _,by have:=of_decide_eq_false hx;show x < 0;omega⟩,fun _=>rfl⟩
  | true=>
   rw [cond_true,ZdY s n];constructor
   ·rintro ⟨j,h1,h2⟩;exact ⟨j+1,by omega,h2⟩
   ·rintro ⟨j,h1,h2⟩;cases j with
    | zero=>
     have:x < 0:=h2;have:=of_decide_eq_true hx;omega
    | succ j=>exact ⟨j,by omega,h2⟩
theorem ZdZ:∀ (l m:List Int),l.Nodup→(∀ x∈l,x∈m)→l.length≤m.length
 | [],m,_,_=>ZO5 _
 | a::r,m,h,hs=>by
  rw [ZOL] at h;have ha:=hs a (ZOv ..);have:=ZdZ r (m.erase a) h.2 (fun x hx=>(List.mem_erase_of_ne (by rintro rfl;exact h.1 hx)).2 (hs x (ZOP _ hx)))
  rw [List.length_erase_of_mem ha] at this;have hl:0 < m.length:=List.length_pos_of_mem ha;rw [ZOg];omega
theorem least (P:Nat→Prop):∀ n,P n→∃ m,P m∧∀ k,k < m→¬ P k:=by
 intro n;induction n using Nat.strongRecOn with
 | _ n ih=>
  intro h;by_cases hc:∃ k,k < n∧P k
  ·obtain ⟨k,h1,h2⟩:=hc;exact ih k h1 h2
  ·exact ⟨n,h,fun k hk hp=>hc ⟨k,hk,hp⟩⟩
theorem Zez (s:Sta) {n:Nat} {x:Int} (h:chN s n x=true):chN s (s.Merged.length+1) x=true:=by
 rw [ZdY] at h ⊢;obtain ⟨j,_,hj⟩:=h;obtain ⟨m,hm,hmin⟩:=least (fun j=>itT s j x < 0) j hj
 refine ⟨m,?_,hm⟩;have hnd:((List.range (m - 1)).map (fun i=>itT s i x)).Nodup:=by
  rw [ZQC,ZQk];refine List.Pairwise.imp_of_mem ?_ (ZQC.1 List.nodup_range);intro i k hi hk hne heq;rw [ZQ4] at hi hk;rcases Nat.lt_or_gt_of_ne hne with hlt | hlt
  ·have h1:itT s (k+(m - k)) x=itT s (i+(m - k)) x:=by rw [Zdh,Zdh,heq]
   rw [show k+(m - k)=m by omega] at h1
   exact hmin (i+(m - k)) (by omega) (by rw [←h1];exact hm)
  ·have h1:itT s (i+(m - i)) x=itT s (k+(m - i)) x:=by rw [Zdh,Zdh,heq]
   rw [show i+(m - i)=m by omega] at h1
   exact hmin (k+(m - i)) (by omega) (by rw [←h1];exact hm)
 have hsub:∀ y∈(List.range (m - 1)).map (fun i=>itT s i x),y∈s.Merged.map (·.b):=by
  intro y hy;obtain ⟨i,hi,rfl⟩:=ZOr.1 hy;rw [ZQ4] at hi;have h1:=hmin (i+1) (by omega)
  rw [Zdq] at h1;unfold XJ at h1;cases hf:s.Merged.find? (fun p=>p.b==itT s i x) with
  | none=>rw [hf] at h1;exact absurd (by decide) h1
  | some p=>
   have h2:=List.find?_some hf;have h3:=ZQB hf;rw [←(by simpa using h2:p.b=itT s i x)]
   exact ZP1 h3
 have:=ZdZ _ _ hnd hsub;rw [ZO3,ZO3,ZQA] at this;omega
end Go.AM
