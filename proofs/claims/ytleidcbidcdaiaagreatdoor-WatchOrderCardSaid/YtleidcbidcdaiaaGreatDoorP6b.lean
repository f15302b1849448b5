/- What the functions of the program compute, part 2, for WatchOrder. No condition. -/
import Derived.Test.YtleidcbidcdaiaaGreatDoorP6a
import Derived.Test.YtleidcbidcdaiaaGreatDoorQ5
set_option linter.unusedVariables false
set_option linter.unusedSimpArgs false
set_option linter.unusedSectionVars false
open Nat renaming reduceAdd → qq, reduceSub → qx, reduceMul → qz, reduceLT → qv, reduceLeDiff → qk, reduceBEq → qy
namespace Go.AM
open Go
def Ye (V:List Bool):List AV:=V.map .bool
theorem Wi (x y:Int):Zz false [1] (I x) (I y)=some (x==y):=by simp only [go_sem,reduceIte]
theorem Z2W (K:List Int) (V:List Bool) (hl:V.length=K.length) (x:Int) {h:Hp} {b:Nat} (hb:h[b]? = some (.map (K.map I) (Ye V))):
 ∃ c,W5 h false [1] false (.bool false) (.mp b) (I x)=some (.bool c):=by
 simp only [W5,hb,QW,Wi];rcases Uq (ag:=false) (kk:=[1]) (enc:=I) (eq:=fun a b=>a==b) Wi x K 0 with ⟨h1,h2⟩ | ⟨j,h1,h2,h3,h4⟩
 ·rw [h1];exact ⟨false,rfl⟩
 ·have:(Ye V)[j]? = some (.bool (V[j]'(by omega))):=by
   unfold Ye;rw [ZOX,ZNQ (by omega)];rfl
  rw [h1];simp only [this];exact ⟨_,rfl⟩
theorem Z2X (K:List Int) (V:List Bool) (hl:V.length=K.length) (x:Int) (c:Bool) {h:Hp} {b:Nat} (hb:h[b]? = some (.map (K.map I) (Ye V))):
 ∃ (K':List Int) (V':List Bool),V'.length=K'.length∧K'.length≤K.length+1∧YK h false [1] (.mp b) (I x) (.bool c)=some (.bot,setH h b (.map (K'.map I) (Ye V'))):=by
 simp only [YK,hb,Yo,Wi];rcases Uq (ag:=false) (kk:=[1]) (enc:=I) (eq:=fun a b=>a==b) Wi x K 0 with ⟨h1,h2⟩ | ⟨j,h1,h2,h3,h4⟩
 ·rw [h1];refine ⟨K++[x],V++[c],by simp [hl],by simp,?_⟩
  simp [Ye,ZM,ZH]
 ·rw [h1];refine ⟨K,V.set j c,by simp [hl],by omega,?_⟩
  simp [Ye,ZM,ZH,ZO5]
def Vm (a b:Int):Bool:=a==b
def Y2 (p:Pair):Bool:=QM p.a 0 0&&(QM p.b 0 0&&!(p.a==p.b))
def QV (l:List Pair) (i:Nat):List Int:=(l.take i).foldl (fun K p=>Qi Vm K p.b) []
def UB (l:List Pair):Bool:=Zu (fun i p=>Y2 p&&!(QV l i).any (Vm p.b)) 0 l
theorem WJ:(0≤(0:Int)∧(0:Int) < ((2:Nat):Int))=True:=by simp
theorem XL:(0≤(1:Int)∧(1:Int) < ((2:Nat):Int))=True:=by simp
theorem Z2Y (a17 a1:AV) (ha17:∀ n,bel n a17=true) (ha1:∀ n,bel n a1=true) (l:List Pair) (hl:l.length≤1000):
 ∃ fr' h',Zg rE [1,3,4,17,18,19,24,25,26] c60L0b [(1,a1),(3,.mp 0),(4,.int .i64 0),(17,a17),(18,.int .i64 2),(19,.int .i64 0),(24,.isl false false 2 (l.map Pair.enc)),(25,I l.length),(26,.int .i64 0)] [.map [] []] =
  some (if UB l=true then .exit 2 else .ret,fr',h')∧
  (UB l=true→(get fr' 1=a1∧get fr' 2=.bot∧get fr' 3=.mp 0∧get fr' 17=a17∧get fr' 18=.int .i64 2∧get fr' 19=.int .i64 0)∧∃ (K:List Int) (V:List Bool),V.length=K.length∧h'=[.map (K.map I) (Ye V)])∧(UB l=false→get fr' 2=.bool false∧get fr' 1=a1∧get fr' 3=.mp 0∧get fr' 17=a17∧get fr' 18=.int .i64 2∧get fr' 19=.int .i64 0):=by
 have hbA:∀ n (K:List Int),Zd n (K.map I)=true:=fun n K=>ZN _ (Zw (fun t=>rfl) K)
 have hbT:∀ n k,Zd n (ZO k)=true:=fun n k=>ZN _ (Ut k)
 have n0:((0:Int)).toNat=0:=rfl;have n1:((1:Int)).toNat=1:=rfl;have z0:((0:Int)==0)=true:=rfl;have L:=Jk (E:=rE) (live:=[1,3,4,17,18,19,24,25,26]) (b:=c60L0b) l (fun i p=>Y2 p&&!(QV l i).any (Vm p.b))
  (fun i=>[(1,a1),(3,.mp 0),(4,.int .i64 0),(17,a17),(18,.int .i64 2),(19,.int .i64 0),(24,.isl false false 2 (l.map Pair.enc)),(25,I l.length),(26,I i)])
  (fun i=>[.map ((QV l i).map I) (ZO (QV l i).length)]) 2
  (fun fr h=>(get fr 1=a1∧get fr 2=.bot∧get fr 3=.mp 0∧get fr 17=a17∧get fr 18=.int .i64 2∧get fr 19=.int .i64 0)∧h=[.map ((QV l l.length).map I) (ZO (QV l l.length).length)])
  (fun fr h=>get fr 2=.bool false∧get fr 1=a1∧get fr 3=.mp 0∧get fr 17=a17∧get fr 18=.int .i64 2∧get fr 19=.int .i64 0) (fun i=>rfl)
  (fun i x hx hP=>by
   have hg:=Z6 (f:=Pair.enc) hx;have hi:=Zh (Z7 hx);have hw:=Zx (n:=i) (by have:=Z7 hx;omega)
   have hf:QV l (i+1)=Qi Vm (QV l i) x.b:=Us _ [] hx;have hp:=fun hh=>Ur (ag:=false) (kk:=[1]) (enc:=I) (eq:=Vm) Wi (QV l i) x.b (h:=.map ((QV l i).map I) (ZO (QV l i).length)::hh) (b:=0) rfl
   have hq:=fun hh=>H5 (ag:=false) (kk:=[1]) (enc:=I) (eq:=Vm) Wi (QV l i) x.b (h:=.map ((QV l i).map I) (ZO (QV l i).length)::hh) (b:=0) rfl
   rw [hf];generalize QV l i=K at hp hq hP ⊢;simp only [Y2,ZNM,ZO9] at hP;obtain ⟨⟨h1,h2,h3⟩,h4⟩:=hP;refine ⟨_,by simp only [go_sem,qy,qq,qv,qk,c60L0b,hg,hi,hw,Pair.enc,WJ,XL,n0,n1,ZOf,if_true,Qc,h1,h2,h3,z0,hq,hp,h4,hbA,hbT,ha17,ha1];rfl,?_⟩
   simp only [go_sem,qy])
  (fun i x hx hP=>by
   have hg:=Z6 (f:=Pair.enc) hx;have hi:=Zh (Z7 hx);have hq:=fun hh=>H5 (ag:=false) (kk:=[1]) (enc:=I) (eq:=Vm) Wi (QV l i) x.b (h:=.map ((QV l i).map I) (ZO (QV l i).length)::hh) (b:=0) rfl
   generalize QV l i=K at hq hP ⊢;unfold Y2 at hP;cases h1:QM x.a 0 0 with
   | false=>
    refine ⟨_,_,by simp only [go_sem,qy,qq,qv,qk,c60L0b,hg,hi,Pair.enc,WJ,n0,ZOf,if_true,Qc,h1,hbA,hbT,ha17,ha1];rfl,?_⟩
    refine ⟨?_,?_,?_,?_,?_,?_⟩<;>simp only [go_sem,qy]
   | true=>
   cases h2:QM x.b 0 0 with
   | false=>
    refine ⟨_,_,by simp only [go_sem,qy,qq,qv,qk,c60L0b,hg,hi,Pair.enc,WJ,XL,n0,n1,ZOf,if_true,Qc,h1,h2,hbA,hbT,ha17,ha1];rfl,?_⟩
    refine ⟨?_,?_,?_,?_,?_,?_⟩<;>simp only [go_sem,qy]
   | true=>
   cases h3:x.a==x.b with
   | true=>
    refine ⟨_,_,by simp only [go_sem,qy,qq,qv,qk,c60L0b,hg,hi,Pair.enc,WJ,XL,n0,n1,ZOf,if_true,Qc,h1,h2,h3,hbA,hbT,ha17,ha1];rfl,?_⟩
    refine ⟨?_,?_,?_,?_,?_,?_⟩<;>simp only [go_sem,qy]
   | false=>
    have h4:K.any (Vm x.b)=true:=by simpa [h1,h2,h3] using hP
    refine ⟨_,_,by simp only [go_sem,qy,qq,qv,qk,c60L0b,hg,hi,Pair.enc,WJ,XL,n0,n1,ZOf,if_true,Qc,h1,h2,h3,z0,hq,h4,hbA,hbT,ha17,ha1];rfl,?_⟩
    refine ⟨?_,?_,?_,?_,?_,?_⟩<;>simp only [go_sem,qy])
  (⟨_,_,by simp only [go_sem,qy,qq,qv,reduceIte,c60L0b,ZG];rfl,by refine ⟨⟨?_,?_,?_,?_,?_,?_⟩,?_⟩<;>simp only [go_sem,qy]⟩)
 obtain ⟨fr',h',h1,h2,h3⟩:=L;refine ⟨fr',h',h1,fun h=>?_,h3⟩
 obtain ⟨h4,h5⟩:=h2 h;refine ⟨h4,QV l l.length,List.replicate (QV l l.length).length true,by simp,?_⟩
 rw [h5];simp [Ye,ZO]
theorem Z2Z (a17 a1:AV) (ha17:∀ n,bel n a17=true) (ha1:∀ n,bel n a1=true) (l:List Pair) (hl:l.length≤1000) (K0:List Int) (V0:List Bool) (hK0:V0.length=K0.length):
 ∃ fr' h',Zg rE [1,3,4,17,18,19,24,25,26] c60L0b [(1,a1),(3,.mp 0),(4,.int .i64 1),(17,a17),(18,.int .i64 2),(19,.int .i64 1),(24,.isl false false 2 (l.map Pair.enc)),(25,I l.length),(26,.int .i64 0)] [.map (K0.map I) (Ye V0)] =
  some (if l.all Y2=true then .exit 2 else .ret,fr',h')∧
  (l.all Y2=true→(get fr' 1=a1∧get fr' 2=.bot∧get fr' 3=.mp 0∧get fr' 17=a17∧get fr' 18=.int .i64 2∧get fr' 19=.int .i64 1)∧∃ o,h'=[o]∧∀ n,Zj n o=true)∧(l.all Y2=false→get fr' 2=.bool false∧get fr' 1=a1∧get fr' 3=.mp 0∧get fr' 17=a17∧get fr' 18=.int .i64 2∧get fr' 19=.int .i64 1):=by
 have hbA:∀ n (K:List Int),Zd n (K.map I)=true:=fun n K=>ZN _ (Zw (fun t=>rfl) K)
 have hbT:∀ n (V:List Bool),Zd n (Ye V)=true:=fun n V=>ZN _ (Zw (fun t=>rfl) V)
 have n0:((0:Int)).toNat=0:=rfl;have n1:((1:Int)).toNat=1:=rfl;have z0:((1:Int)==0)=false:=rfl
 suffices G:∀ (post pre:List Pair) (K:List Int) (V:List Bool),l=pre++post→V.length=K.length→
  ∃ fr' h',Zg rE [1,3,4,17,18,19,24,25,26] c60L0b [(1,a1),(3,.mp 0),(4,.int .i64 1),(17,a17),(18,.int .i64 2),(19,.int .i64 1),(24,.isl false false 2 (l.map Pair.enc)),(25,I l.length),(26,I pre.length)] [.map (K.map I) (Ye V)] =
  some (if post.all Y2=true then .exit 2 else .ret,fr',h')∧
  (post.all Y2=true→(get fr' 1=a1∧get fr' 2=.bot∧get fr' 3=.mp 0∧get fr' 17=a17∧get fr' 18=.int .i64 2∧get fr' 19=.int .i64 1)∧∃ o,h'=[o]∧∀ n,Zj n o=true)∧(post.all Y2=false→get fr' 2=.bool false∧get fr' 1=a1∧get fr' 3=.mp 0∧get fr' 17=a17∧get fr' 18=.int .i64 2∧get fr' 19=.int .i64 1) from G l [] K0 V0 rfl hK0
 intro post;induction post with
 | nil=>
  intro pre K V hp hKV;have hlen:l.length=pre.length:=by rw [hp];simp
  have hf:decide ((pre.length:Int) < (l.length:Int))=false:=by rw [hlen];exact ZG _
  refine ⟨_,_,Q7 rfl (by simp only [go_sem,qy,qq,reduceIte,c60L0b,hf];rfl) (by simp),fun _=>⟨?_,_,rfl,fun n=>by simp only [go_sem,hbA,hbT]⟩,fun h=>by simp at h⟩
  refine ⟨?_,?_,?_,?_,?_,?_⟩<;>simp only [go_sem,qy]
 | cons x post ih=>
  intro pre K V hp hKV;have hx:l[pre.length]? = some x:=by rw [hp];simp
  have hg:=Z6 (f:=Pair.enc) hx;have hi:=Zh (Z7 hx);have hlx:=Z7 hx;have hw:=Zx (n:=pre.length) (by omega)
  rw [ZOw];cases h1:QM x.a 0 0 with
  | false=>
   have hP:Y2 x=false:=by simp [Y2,h1]
   rw [hP,ZO4];refine ⟨_,_,Q7 rfl (by simp only [go_sem,qy,qq,qv,qk,c60L0b,hg,hi,Pair.enc,WJ,n0,ZOf,if_true,Qc,h1,hbA,hbT,ha17,ha1];rfl) (by simp),fun h=>(by cases h),fun _=>?_⟩
   refine ⟨?_,?_,?_,?_,?_,?_⟩<;>simp only [go_sem,qy]
  | true=>
  cases h2:QM x.b 0 0 with
  | false=>
   have hP:Y2 x=false:=by simp [Y2,h2]
   rw [hP,ZO4];refine ⟨_,_,Q7 rfl (by simp only [go_sem,qy,qq,qv,qk,c60L0b,hg,hi,Pair.enc,WJ,XL,n0,n1,ZOf,if_true,Qc,h1,h2,hbA,hbT,ha17,ha1];rfl) (by simp),fun h=>(by cases h),fun _=>?_⟩
   refine ⟨?_,?_,?_,?_,?_,?_⟩<;>simp only [go_sem,qy]
  | true=>
  cases h3:x.a==x.b with
  | true=>
   have hP:Y2 x=false:=by simp only [Y2,h3,ZNN,ZOq]
   rw [hP,ZO4];refine ⟨_,_,Q7 rfl (by simp only [go_sem,qy,qq,qv,qk,c60L0b,hg,hi,Pair.enc,WJ,XL,n0,n1,ZOf,if_true,Qc,h1,h2,h3,hbA,hbT,ha17,ha1];rfl) (by simp),fun h=>(by cases h),fun _=>?_⟩
   refine ⟨?_,?_,?_,?_,?_,?_⟩<;>simp only [go_sem,qy]
  | false=>
   have hP:Y2 x=true:=by simp only [Y2,h1,h2,h3,ZNS,ZOi]
   rw [hP,ZNX];obtain ⟨c,hq⟩:=Z2W K V hKV x.b (h:=[.map (K.map I) (Ye V),.row 2 [.agg [I x.a,I x.b]]]) (b:=0) rfl;obtain ⟨K',V',hKV',_,hput⟩:=Z2X K V hKV x.b c (h:=[.map (K.map I) (Ye V),.row 2 [.agg [I x.a,I x.b]]]) (b:=0) rfl;obtain ⟨fr',h',h4,h5⟩:=ih (pre++[x]) K' V' (by simp [hp]) hKV'
   refine ⟨fr',h',?_,h5⟩;rw [←h4];have hl1:((pre++[x]).length:Int)=((pre.length+1:Nat):Int):=by simp
   rw [hl1];cases c<;>exact (Yt rfl (by simp only [go_sem,qy,qq,qv,qk,c60L0b,hg,hi,hw,Pair.enc,WJ,XL,n0,n1,ZOf,if_true,Qc,h1,h2,h3,z0,hq,hput,hbA,hbT,ha17,ha1];rfl)).trans (by simp only [go_sem,qy])
def chN (s:Sta):Nat→Int→Bool
 | 0,at'=>!decide (at' ≥ 0)
 | k+1,at'=>bif decide (at' ≥ 0) then chN s k (XJ s at') else true
theorem Fl (s:Sta) (hs:StS s) (a71 a72 a73:AV) (h:Hp):∀ k n at',n+k=s.Merged.length+1→
 ∃ fr',Zg rE [1,10,11,71,72,73] c60L2b [(1,.iptr false [.isl false false 6 (s.Regions.map Region.enc),.isl false false 5 (s.Streets.map Street.enc),.isl false false 4 (s.Buildings.map Building.enc),.isl false false 16 (s.Doors.map Door.enc),.isl false false 6 (s.Units.map Unit'.enc),.isl false false 2 (s.Merged.map Pair.enc),.isl false false 2 (s.Rulings.map Pair.enc)]),(10,I at'),(11,I (n:Nat)),(71,a71),(72,a72),(73,a73)] h =
  some (if chN s k at'=true then .exit 6 else .ret,fr',h)∧(chN s k at'=true→get fr' 2=.bot∧get fr' 1=.iptr false [.isl false false 6 (s.Regions.map Region.enc),.isl false false 5 (s.Streets.map Street.enc),.isl false false 4 (s.Buildings.map Building.enc),.isl false false 16 (s.Doors.map Door.enc),.isl false false 6 (s.Units.map Unit'.enc),.isl false false 2 (s.Merged.map Pair.enc),.isl false false 2 (s.Rulings.map Pair.enc)]∧get fr' 71=a71∧get fr' 72=a72∧get fr' 73=a73)∧(chN s k at'=false→get fr' 2=.bool false∧get fr' 1=.iptr false [.isl false false 6 (s.Regions.map Region.enc),.isl false false 5 (s.Streets.map Street.enc),.isl false false 4 (s.Buildings.map Building.enc),.isl false false 16 (s.Doors.map Door.enc),.isl false false 6 (s.Units.map Unit'.enc),.isl false false 2 (s.Merged.map Pair.enc),.isl false false 2 (s.Rulings.map Pair.enc)]∧get fr' 71=a71∧get fr' 72=a72∧get fr' 73=a73):=by
 intro k;induction k with
 | zero=>
  intro n at' hn;unfold chN;cases h1:decide (at' ≥ 0) with
  | false=>
   refine ⟨_,Q7 rfl (by simp only [go_sem,qy,reduceIte,c60L2b,h1,GH];rfl) (by simp),fun _=>?_,fun hh=>(by simp at hh)⟩
   refine ⟨?_,?_,?_,?_,?_⟩<;>simp only [go_sem,qy]
  | true=>
   have h2:decide ((n:Int) > (s.Merged.length:Int))=true:=decide_eq_true (by omega)
   refine ⟨_,Q7 rfl (by simp only [go_sem,qy,reduceIte,c60L2b,h1,h2,GH];rfl) (by simp),fun hh=>(by simp at hh),fun _=>?_⟩
   refine ⟨?_,?_,?_,?_,?_⟩<;>simp only [go_sem,qy]
 | succ k ih=>
  intro n at' hn;unfold chN;cases h1:decide (at' ≥ 0) with
  | false=>
   refine ⟨_,Q7 rfl (by simp only [go_sem,qy,reduceIte,c60L2b,h1,GH];rfl) (by simp),fun _=>?_,fun hh=>(by simp at hh)⟩
   refine ⟨?_,?_,?_,?_,?_⟩<;>simp only [go_sem,qy]
  | true=>
   have h2:decide ((n:Int) > (s.Merged.length:Int))=false:=decide_eq_false (by omega)
   have hm:=hs.merged;have hw:=Zx (n:=n) (by omega)
   have ht:=NJ s hs at';obtain ⟨fr',h3,h4⟩:=ih (n+1) (XJ s at') (by omega)
   rw [cond_true];refine ⟨fr',?_,h4⟩;rw [←h3];exact (Yt rfl (by simp only [go_sem,qy,qq,qk,reduceIte,c60L2b,h1,h2,hw,ht,GH];rfl)).trans (by simp only [go_sem,qy])
def WK (s:Sta):Bool:=UB s.Merged&&(s.Rulings.all Y2&&s.Merged.all (fun p=>chN s (s.Merged.length+1) p.b))
theorem Z30 (s:Sta) (hs:StS s) (o:AObj) (ho:∀ n,Zj n o=true):
 ∃ fr',Zg rE [1,71,72,73] c60L3b [(1,.iptr false [.isl false false 6 (s.Regions.map Region.enc),.isl false false 5 (s.Streets.map Street.enc),.isl false false 4 (s.Buildings.map Building.enc),.isl false false 16 (s.Doors.map Door.enc),.isl false false 6 (s.Units.map Unit'.enc),.isl false false 2 (s.Merged.map Pair.enc),.isl false false 2 (s.Rulings.map Pair.enc)]),(71,.isl false false 2 (s.Merged.map Pair.enc)),(72,I s.Merged.length),(73,.int .i64 0)] [o] =
  some (if s.Merged.all (fun p=>chN s (s.Merged.length+1) p.b)=true then .exit 4 else .ret,fr',[o])∧(s.Merged.all (fun p=>chN s (s.Merged.length+1) p.b)=false→get fr' 2=.bool false):=by
 have n1:((1:Int)).toNat=1:=rfl;generalize ha:AV.iptr false [.isl false false 6 (s.Regions.map Region.enc),.isl false false 5 (s.Streets.map Street.enc),.isl false false 4 (s.Buildings.map Building.enc),.isl false false 16 (s.Doors.map Door.enc),.isl false false 6 (s.Units.map Unit'.enc),.isl false false 2 (s.Merged.map Pair.enc),.isl false false 2 (s.Rulings.map Pair.enc)]=a;have hba:∀ n,bel n a=true:=fun n=>by rw [←ha];rfl
 have L:=Uf (E:=rE) (live:=[1,71,72,73]) (b:=c60L3b) (h:=[o]) s.Merged (fun _ p=>chN s (s.Merged.length+1) p.b) (fun i=>[(1,a),(71,.isl false false 2 (s.Merged.map Pair.enc)),(72,I s.Merged.length),(73,I i)]) 4 (fun fr=>get fr 2=.bool false) (fun i=>rfl)
  (fun i x hx hP=>by
   have hg:=Z6 (f:=Pair.enc) hx;have hi:=Zh (Z7 hx);have hw:=Zx (n:=i) (by have:=Z7 hx;have:=hs.merged;omega)
   obtain ⟨fr',h1,h2,_⟩:=Fl s hs (.isl false false 2 (s.Merged.map Pair.enc)) (I s.Merged.length) (I i) [o,.row 2 [.agg [I x.a,I x.b]]] (s.Merged.length+1) 0 x.b (by omega)
   rw [hP,if_pos rfl,ha] at h1;obtain ⟨q2,q1,q71,q72,q73⟩:=h2 hP;rw [ha] at q1;have h1':Zg rE [1,10,11,71,72,73] c60L2b [(1,a),(10,I x.b),(11,.int .i64 0),(71,.isl false false 2 (s.Merged.map Pair.enc)),(72,I s.Merged.length),(73,I i)] [o,.row 2 [.agg [I x.a,I x.b]]]=_:=h1;refine ⟨_,by simp only [go_sem,qy,qq,qv,qk,c60L3b,c60L2,hg,hi,hw,Pair.enc,XL,n1,ZOf,if_true,h1',q1,q2,q71,q72,q73,ho,hba];rfl,?_⟩
   simp only [go_sem,qy])
  (fun i x hx hP=>by
   have hg:=Z6 (f:=Pair.enc) hx;have hi:=Zh (Z7 hx);obtain ⟨fr',h1,_,h2⟩:=Fl s hs (.isl false false 2 (s.Merged.map Pair.enc)) (I s.Merged.length) (I i) [o,.row 2 [.agg [I x.a,I x.b]]] (s.Merged.length+1) 0 x.b (by omega)
   rw [hP,ha] at h1;obtain ⟨q2,q1,q71,q72,q73⟩:=h2 hP;rw [ha] at q1;have h1':Zg rE [1,10,11,71,72,73] c60L2b [(1,a),(10,I x.b),(11,.int .i64 0),(71,.isl false false 2 (s.Merged.map Pair.enc)),(72,I s.Merged.length),(73,I i)] [o,.row 2 [.agg [I x.a,I x.b]]]=_:=h1;refine ⟨_,by simp only [go_sem,qy,qq,qv,qk,reduceIte,c60L3b,c60L2,hg,hi,Pair.enc,XL,n1,ZOf,if_true,h1',q1,q2,q71,q72,q73,ho,hba,ZNY];rfl,?_⟩
   simp only [go_sem,qy])
  (⟨_,by simp only [go_sem,qy,qq,reduceIte,c60L3b,ZG];rfl⟩)
 rw [QE] at L;exact L
theorem Z31 (s:Sta) (hs:StS s):pfn rE 60 [stA s]=some (.bool (WK s)):=by
 have hbA:∀ n (K:List Int),Zd n (K.map I)=true:=fun n K=>ZN _ (Zw (fun t=>rfl) K)
 have hbT:∀ n (V:List Bool),Zd n (Ye V)=true:=fun n V=>ZN _ (Zw (fun t=>rfl) V)
 have e0:ixG [AV.isl false false 2 (s.Merged.map Pair.enc),.isl false false 2 (s.Rulings.map Pair.enc)] 0=some (.isl false false 2 (s.Merged.map Pair.enc)):=rfl;have e1:ixG [AV.isl false false 2 (s.Merged.map Pair.enc),.isl false false 2 (s.Rulings.map Pair.enc)] 1=some (.isl false false 2 (s.Rulings.map Pair.enc)):=rfl;have d02:decide ((0:Int) < 2)=true:=rfl;have d12:decide ((1:Int) < 2)=true:=rfl;have d22:decide ((2:Int) < 2)=false:=rfl;have w0:IntKind.i64.wrap ((0:Int)+1)=1:=rfl;have w1:IntKind.i64.wrap ((1:Int)+1)=2:=rfl;have c2:(((0+1+1:Nat):Nat):Int)=2:=rfl;have c2':((2:Nat):Int)=2:=rfl;obtain ⟨f1,g1,hm1,hm2,hm3⟩:=Z2Y (.isl false false 1 [.isl false false 2 (s.Merged.map Pair.enc),.isl false false 2 (s.Rulings.map Pair.enc)]) (.iptr false [.isl false false 6 (s.Regions.map Region.enc),.isl false false 5 (s.Streets.map Street.enc),.isl false false 4 (s.Buildings.map Building.enc),.isl false false 16 (s.Doors.map Door.enc),.isl false false 6 (s.Units.map Unit'.enc),.isl false false 2 (s.Merged.map Pair.enc),.isl false false 2 (s.Rulings.map Pair.enc)]) (fun n=>rfl) (fun n=>rfl) s.Merged hs.merged
 rw [Z5 (f:=60) rfl rfl];unfold WK;cases c1:UB s.Merged with
 | false=>
  rw [c1] at hm1;obtain ⟨q2,q1,q3,q17,q18,q19⟩:=hm3 c1;have R:∃ fr h,Zg rE [1,3,17,18,19] c60L1b [(1,.iptr false [.isl false false 6 (s.Regions.map Region.enc),.isl false false 5 (s.Streets.map Street.enc),.isl false false 4 (s.Buildings.map Building.enc),.isl false false 16 (s.Doors.map Door.enc),.isl false false 6 (s.Units.map Unit'.enc),.isl false false 2 (s.Merged.map Pair.enc),.isl false false 2 (s.Rulings.map Pair.enc)]),(3,.mp 0),(17,.isl false false 1 [.isl false false 2 (s.Merged.map Pair.enc),.isl false false 2 (s.Rulings.map Pair.enc)]),(18,.int .i64 2),(19,.int .i64 0)] [.map [] []]=some (.ret,fr,h)∧get fr 2=.bool false:=by
   refine ⟨_,_,Q7 rfl (by simp only [go_sem,qy,qq,qv,reduceIte,c60L1b,c60L0,e0,d02,hm1,q1,q2,q3,q17,q18,q19,ZNY];rfl) (by simp),?_⟩
   simp only [go_sem,qy]
  obtain ⟨fr,h,hR,hq⟩:=R;simp only [go_sem,qy,qq,qv,c60,c60L1,c2',hR,hq]
 | true=>
  rw [c1,if_pos rfl] at hm1;obtain ⟨⟨q1,q2,q3,q17,q18,q19⟩,K,V,hKV,rfl⟩:=hm2 c1;obtain ⟨f2,g2,hr1,hr2,hr3⟩:=Z2Z (.isl false false 1 [.isl false false 2 (s.Merged.map Pair.enc),.isl false false 2 (s.Rulings.map Pair.enc)]) (.iptr false [.isl false false 6 (s.Regions.map Region.enc),.isl false false 5 (s.Streets.map Street.enc),.isl false false 4 (s.Buildings.map Building.enc),.isl false false 16 (s.Doors.map Door.enc),.isl false false 6 (s.Units.map Unit'.enc),.isl false false 2 (s.Merged.map Pair.enc),.isl false false 2 (s.Rulings.map Pair.enc)]) (fun n=>rfl) (fun n=>rfl) s.Rulings hs.rulings K V hKV
  have R1:=Yt (E:=rE) (live:=[1,3,17,18,19]) (b:=c60L1b) (fr:=[(1,.iptr false [.isl false false 6 (s.Regions.map Region.enc),.isl false false 5 (s.Streets.map Street.enc),.isl false false 4 (s.Buildings.map Building.enc),.isl false false 16 (s.Doors.map Door.enc),.isl false false 6 (s.Units.map Unit'.enc),.isl false false 2 (s.Merged.map Pair.enc),.isl false false 2 (s.Rulings.map Pair.enc)]),(3,.mp 0),(17,.isl false false 1 [.isl false false 2 (s.Merged.map Pair.enc),.isl false false 2 (s.Rulings.map Pair.enc)]),(18,.int .i64 2),(19,.int .i64 0)]) (h:=[.map [] []]) rfl (by simp only [go_sem,qy,qq,qv,reduceIte,c60L1b,c60L0,e0,d02,w0,hm1,q1,q2,q3,q17,q18,q19];rfl)
  simp only [go_sem,qy] at R1;cases c5003:s.Rulings.all Y2 with
  | false=>
   rw [c5003] at hr1;obtain ⟨p2,p1,p3,p17,p18,p19⟩:=hr3 c5003;have R:∃ fr h,Zg rE [1,3,17,18,19] c60L1b [(1,.iptr false [.isl false false 6 (s.Regions.map Region.enc),.isl false false 5 (s.Streets.map Street.enc),.isl false false 4 (s.Buildings.map Building.enc),.isl false false 16 (s.Doors.map Door.enc),.isl false false 6 (s.Units.map Unit'.enc),.isl false false 2 (s.Merged.map Pair.enc),.isl false false 2 (s.Rulings.map Pair.enc)]),(3,.mp 0),(17,.isl false false 1 [.isl false false 2 (s.Merged.map Pair.enc),.isl false false 2 (s.Rulings.map Pair.enc)]),(18,.int .i64 2),(19,.int .i64 1)] [.map (K.map I) (Ye V)]=some (.ret,fr,h)∧get fr 2=.bool false:=by
    refine ⟨_,_,Q7 rfl (by simp only [go_sem,qy,qq,qv,reduceIte,c60L1b,c60L0,e1,d12,hr1,p1,p2,p3,p17,p18,p19,ZNY];rfl) (by simp),?_⟩
    simp only [go_sem,qy]
   obtain ⟨fr,h,hR,hq⟩:=R;simp only [go_sem,qy,qq,qv,c60,c60L1,c2',R1,hR,hq]
  | true=>
   rw [c5003,if_pos rfl] at hr1;obtain ⟨⟨p1,p2,p3,p17,p18,p19⟩,o,rfl,ho⟩:=hr2 c5003;have R2:=Yt (E:=rE) (live:=[1,3,17,18,19]) (b:=c60L1b) (fr:=[(1,.iptr false [.isl false false 6 (s.Regions.map Region.enc),.isl false false 5 (s.Streets.map Street.enc),.isl false false 4 (s.Buildings.map Building.enc),.isl false false 16 (s.Doors.map Door.enc),.isl false false 6 (s.Units.map Unit'.enc),.isl false false 2 (s.Merged.map Pair.enc),.isl false false 2 (s.Rulings.map Pair.enc)]),(3,.mp 0),(17,.isl false false 1 [.isl false false 2 (s.Merged.map Pair.enc),.isl false false 2 (s.Rulings.map Pair.enc)]),(18,.int .i64 2),(19,.int .i64 1)]) (h:=[.map (K.map I) (Ye V)]) rfl (by simp only [go_sem,qy,qq,qv,reduceIte,c60L1b,c60L0,e1,d12,w1,hr1,p1,p2,p3,p17,p18,p19];rfl)
   simp only [go_sem,qy] at R2;have R3:=Q7 (E:=rE) (live:=[1,3,17,18,19]) (b:=c60L1b) (fr:=[(1,.iptr false [.isl false false 6 (s.Regions.map Region.enc),.isl false false 5 (s.Streets.map Street.enc),.isl false false 4 (s.Buildings.map Building.enc),.isl false false 16 (s.Doors.map Door.enc),.isl false false 6 (s.Units.map Unit'.enc),.isl false false 2 (s.Merged.map Pair.enc),.isl false false 2 (s.Rulings.map Pair.enc)]),(3,.mp 0),(17,.isl false false 1 [.isl false false 2 (s.Merged.map Pair.enc),.isl false false 2 (s.Rulings.map Pair.enc)]),(18,.int .i64 2),(19,.int .i64 2)]) (h:=[o]) rfl (by simp only [go_sem,qy,qq,qv,reduceIte,c60L1b,d22];rfl) (by simp)
   obtain ⟨f4,h4,h5⟩:=Z30 s hs o ho;cases c5004:s.Merged.all (fun p=>chN s (s.Merged.length+1) p.b) with
   | true=>rw [c5004,if_pos rfl] at h4;simp only [go_sem,qy,qq,qv,c60,c60L1,c60L3,c2',R1,R2,R3,h4]
   | false=>rw [c5004] at h4;simp only [go_sem,qy,qq,qv,reduceIte,c60,c60L1,c60L3,c2',R1,R2,R3,h4,h5 c5004,ZNY]
end Go.AM
namespace Go.AM
open Go
theorem c58_eq:c58=.seq s58p0 (.seq s58p1 (.seq s58p2 (.seq s58p3 (.seq s58p4 (.seq s58p5 (.seq s58p6 (.seq s58p7 (.seq s58p8 (.seq s58p9 (.seq s58p10 .ret)))))))))):=rfl
def Zo (d:Door):AV:=.agg [.str d.Id,.str d.Building,.str d.Street,I d.Owner,I d.Number.N,.str d.Number.Letter,I d.Number.Num,I d.Number.Den,I d.Point.X,I d.Point.Y,I d.From,I d.Ended,.isl false d.After.ex 1 (d.After.l.map encS),I d.Why,I d.Office,.str d.Veil]
def exD (d:Door):Bool:=d.Ended==-1
def K8 (s:Sta) (i:Int) (d:Door):Bool:=d.After.l.all fun id=>!decide (Zn s id≤i)
def Yf (d:Door):Int:=(d.After.l.length:Int)
def He (d:Door):Bool:=
 bif d.Why==12 then Yf d==0 else bif d.Why==11 then Yf d==0&&Z3 d.Veil emp else bif d.Why==9 then ZD (Yf d) 2 8&&Z3 d.Veil emp else bif d.Why==10 then Yf d==1&&Z3 d.Veil emp else false
def UC (d:Door):Bool:=(((!(exD d==(d.Why==0)))||(exD d&&decide (Yf d > 0)))||(!exD d&&!He d))||!Jq d.After.l
def NM (d:Door):Event:=⟨0,0,0,0,d.Office,d.Id,emp,d.Veil,⟨false,[]⟩,⟨false,[]⟩,⟨0,emp,0,0⟩,⟨0,0⟩,⟨false,[]⟩,⟨false,[]⟩⟩
def Hf (d:Door):Event:=⟨0,0,0,0,0,d.Id,d.Building,d.Street,⟨false,[]⟩,⟨false,[]⟩,d.Number,d.Point,⟨false,[]⟩,⟨false,[]⟩⟩
def NN (d:Door):Bool:=Z3 d.Building emp&&(Z3 d.Street emp&&(QL d.Number ⟨0,emp,0,0⟩&&(QK d.Point ⟨0,0⟩&&Q9 { NM d with Kind:=15 })))
def WL (s:Sta) (k:Int):Int:=match s.Buildings[k.toNat]? with | some b=>b.Ended | none=>0
def QF (s:Sta) (k:Int):Int:=match s.Streets[k.toNat]? with | some b=>b.Ended | none=>0
def NO (s:Sta) (d:Door):Bool:=((d.Office != 0||decide (Y1 s d.Building < 0))||decide (ZL s d.Street < 0))||(exD d&&(WL s (Y1 s d.Building) != -1||QF s (ZL s d.Street) != -1))
def Hg (s:Sta) (i:Int) (d:Door):Bool:=
 K8 s i d&&(!UC d&&(bif Z3 d.Veil emp then !NO s d&&Q9 { Hf d with Kind:=6 } else NN d))
structure DoS (d:Door):Prop where
 after:d.After.l.length≤100
 id:d.Id.size≤1000
 building:d.Building.size≤1000
 street:d.Street.size≤1000
 veil:d.Veil.size≤1000
abbrev stI (s:Sta):AV:=.iptr false [.isl false false 6 (s.Regions.map Region.enc),.isl false false 5 (s.Streets.map Street.enc),.isl false false 4 (s.Buildings.map Building.enc),.isl false false 16 (s.Doors.map Door.enc),.isl false false 6 (s.Units.map Unit'.enc),.isl false false 2 (s.Merged.map Pair.enc),.isl false false 2 (s.Rulings.map Pair.enc)]
theorem Z32 (s:Sta) (hs:StS s) (i:Int) (d:Door) (hd:DoS d):∃ fr',Zg rE [1,2,5,6,22,23,24] c58L0b [(1,I i),(2,stI s),(5,.ptr 0 0 0 1),(6,.bool (exD d)),(22,.isl false d.After.ex 1 (d.After.l.map encS)),(23,I d.After.l.length),(24,.int .i64 0)] [.row 16 [Zo d]] =
 some (if K8 s i d=true then .exit 0 else .ret,fr',[.row 16 [Zo d]])∧(K8 s i d=true→get fr' 2=stI s∧get fr' 4=.bot∧get fr' 5=.ptr 0 0 0 1∧get fr' 6=.bool (exD d))∧(K8 s i d=false→get fr' 4=.bool false):=by
 have L:=QT (E:=rE) (live:=[1,2,5,6,22,23,24]) (b:=c58L0b) (h:=[.row 16 [Zo d]]) d.After.l (fun _ id=>!decide (Zn s id≤i))
  (fun j=>[(1,I i),(2,stI s),(5,.ptr 0 0 0 1),(6,.bool (exD d)),(22,.isl false d.After.ex 1 (d.After.l.map encS)),(23,I d.After.l.length),(24,I j)]) 0
  (fun fr=>get fr 2=stI s∧get fr 4=.bot∧get fr 5=.ptr 0 0 0 1∧get fr 6=.bool (exD d)) (fun fr=>get fr 4=.bool false) (fun j=>rfl)
  (fun j x hx hP=>by
   have hg:=Z6 (f:=encS) hx;have hi:=Zh (Z7 hx);have hw:=Zx (n:=j) (by have:=Z7 hx;have:=hd.after;omega)
   have hf:=find_ok s hs x;have hP':decide (Zn s x≤i)=false:=by simpa using hP
   refine ⟨_,by simp only [go_sem,qy,qq,qv,qk,reduceIte,c58L0b,hg,hi,hw,encS,hf,hP'];rfl,?_⟩
   simp only [go_sem,qy])
  (fun j x hx hP=>by
   have hg:=Z6 (f:=encS) hx;have hi:=Zh (Z7 hx);have hf:=find_ok s hs x;have hP':decide (Zn s x≤i)=true:=by simpa using hP
   refine ⟨_,by simp only [go_sem,qy,qq,qv,qk,reduceIte,c58L0b,hg,hi,encS,hf,hP'];rfl,?_⟩
   simp only [go_sem,qy])
  (⟨_,by simp only [go_sem,qy,qq,qv,reduceIte,c58L0b,ZG];rfl,by refine ⟨?_,?_,?_,?_⟩<;>simp only [go_sem,qy]⟩)
 rw [QE] at L;exact L
theorem Fm (s:Sta) (hs:StS s) (i:Nat) (d:Door) (hd:DoS d) (hx:s.Doors[i]? = some d) (rest:ACode):
 (K8 s i d=true→Zb rE (.seq s58p0 (.seq s58p1 (.seq s58p2 (.seq s58p3 rest)))) [(0,stA s),(1,I i)] []=Zb rE rest [(2,stI s),(4,.bot),(5,.ptr 0 0 0 1),(6,.bool (exD d))] [.row 16 [Zo d]])∧
 (K8 s i d=false→∃ fr h,Zb rE (.seq s58p0 (.seq s58p1 (.seq s58p2 (.seq s58p3 rest)))) [(0,stA s),(1,I i)] []=some (.ret,fr,h)∧get fr 4=.bool false):=by
 obtain ⟨fr',h1,h2,h3⟩:=Z32 s hs i d hd;have hg:=Z6 (f:=Door.enc) hx;have hex:(d.Ended==-1)=exD d:=rfl;unfold Zo at h1 ⊢;constructor
 ·intro ha;rw [if_pos ha] at h1;obtain ⟨q2,q4,q5,q6⟩:=h2 ha;simp only [go_sem,qy,qq,qv,qk,reduceIte,s58p0,s58p1,s58p2,s58p3,c58L0,hg,Door.enc,NL.enc,hex,h1,q2,q4,q5,q6]
 ·intro ha;rw [ha] at h1;have q4:=h3 ha;simp only [ZNY,if_false] at h1;refine ⟨_,_,by simp only [go_sem,qy,qq,qv,qk,reduceIte,s58p0,s58p1,s58p2,s58p3,c58L0,hg,Door.enc,NL.enc,hex,h1,q4];rfl,?_⟩
  simp only [go_sem,qy]
def XM (d:Door):AObj:=.map [.int .i64 12,.int .i64 11,.int .i64 9,.int .i64 10] [.bool (Yf d==0),.bool (Yf d==0&&Z3 d.Veil emp),.bool (ZD (Yf d) 2 8&&Z3 d.Veil emp),.bool (Yf d==1&&Z3 d.Veil emp)]
theorem Z33 (a1 a2:Bool) (r1 r2:List Nat) (w1 w2:Option Nat) (k v j u:AV):Kp ⟨a1,r1,w1,some (k,v)⟩ ⟨a2,r2,w2,some (j,u)⟩=YF k j:=(rfl)
theorem Fo (a b:Int):YF (.int .i64 a) (.int .i64 b)=(a != b):=by simp [YF]
theorem Z34 (x:AObj) (ks vs:List AV) (k:Int) (v:AV) (hk:ZW false [1] (I k) ks 0=some none):YK [x,.map ks vs] false [1] (.mp 1) (I k) v=some (.bot,[x,.map (ks++[I k]) (vs++[v])]):=by
 simp only [YK,ZOu,ZOr,Yo,Wi,hk,ZM,ZH,GN,GM]
def Js (b:Nat) (v:AV):Bool:=match v with | .mp c=>c==b | _=>false
theorem Z35 (b:Nat):Js b (.mp b)=true:=by simp [Js]
theorem Z36 {b:Nat} {v:AV} (h:Js b v=true):v=.mp b:=by
 cases v with
 | mp c=>have:c=b:=by simpa [Js] using h
         rw [this]
 | _=>simp [Js] at h
theorem Z37 (fr:Fr) (x:AObj) (ks vs:List AV) (k:Int) (t:Nat) (h37':Js 1 (get fr 37)=true) (hk:ZW false [1] (I k) ks 0=some none) (htn:t≠37):
 Za rE (.ins false [1] (.t 37) (.c (.int .i64 k)) (.t t)) fr [x,.map ks vs]=⟨false,[],some 1,some (I k,get fr t)⟩:=by
 have h37:=Z36 h37';obtain ⟨v,ht⟩:∃ v,get fr t=v:=⟨_,rfl⟩;rw [ht];have e37:get (Z2 (AOp.ins false [1] (.t 37) (.c (.int .i64 k)) (.t t)).slots fr) 37=.mp 1:=by
  simp [AOp.slots,Arg.slots,Z2,get,h37]
 have et:get (Z2 (AOp.ins false [1] (.t 37) (.c (.int .i64 k)) (.t t)).slots fr) t=v:=by
  have:(37==t)=false:=by rw [beq_eq_false_iff_ne];exact fun h=>htn h.symm
  simp [AOp.slots,Arg.slots,Z2,get,this,ht]
 have hne:YF (I k) (I k)=false:=by rw [Fo];simp
 have hd:Za rE (.ins false [1] (.t 37) (.c (.int .i64 k)) (.t t)) fr [x,.map ks vs]=QG rE (Z2 (AOp.ins false [1] (.t 37) (.c (.int .i64 k)) (.t t)).slots fr) [x,.map ks vs] (.ins false [1] (.t 37) (.c (.int .i64 k)) (.t t)) (match Z8 rE (Z2 (AOp.ins false [1] (.t 37) (.c (.int .i64 k)) (.t t)).slots fr) [x,.map ks vs] ([x,.map ks vs]:Hp).length (.ins false [1] (.t 37) (.c (.int .i64 k)) (.t t)) with | some r=>r.2.2 | none=>none):=rfl
 rw [hd];generalize Z2 (AOp.ins false [1] (.t 37) (.c (.int .i64 k)) (.t t)).slots fr=f at e37 et;have ho:Z8 rE f [x,.map ks vs] ([x,.map ks vs]:Hp).length (.ins false [1] (.t 37) (.c (.int .i64 k)) (.t t))=some (.bot,[1],some (1,.map (ks++[I k]) (vs++[v]))):=by
  simp only [Z8,ev,e37,et,ZOu,ZOr,Yo,Wi,hk]
 have hi:Wm rE f [x,.map ks vs] (.ins false [1] (.t 37) (.c (.int .i64 k)) (.t t))=some (I k,v):=by
  simp only [Wm,ev,e37,et,ZOu,ZOr,hk,hne,cond_false]
 rw [ho];simp only [QG,hi,ZOd]
theorem Z38 (s:Sta) (d:Door) (rest:ACode):
 Zb rE (.seq s58p4 (.seq s58p5 rest)) [(2,stI s),(4,.bot),(5,.ptr 0 0 0 1),(6,.bool (exD d))] [.row 16 [Zo d]] =
  Zb rE rest [(2,stI s),(5,.ptr 0 0 0 1),(6,.bool (exD d)),(9,I (Yf d)),(10,.mp 1)] [.row 16 [Zo d],XM d]:=by
 have hn:((d.After.l.length:Nat):Int)=Yf d:=rfl;have f1:ZW false [1] (.int .i64 12) [] 0=some none:=rfl;have f2:ZW false [1] (.int .i64 11) [.int .i64 12] 0=some none:=rfl;have f3:ZW false [1] (.int .i64 9) [.int .i64 12,.int .i64 11] 0=some none:=rfl;have f4:ZW false [1] (.int .i64 10) [.int .i64 12,.int .i64 11,.int .i64 9] 0=some none:=rfl;have n1:((11:Int) != 12)=true:=rfl;have n2:((9:Int) != 12)=true:=rfl;have n3:((9:Int) != 11)=true:=rfl;have n4:((10:Int) != 12)=true:=rfl;have n5:((10:Int) != 11)=true:=rfl;have n6:((10:Int) != 9)=true:=rfl;have b1:∀ x:AV,Zd 1 [x]=bel 1 x:=fun x=>by simp [Zd]
 unfold XM Zo;cases c1:Yf d==0<;>cases c2:Yf d==1<;>cases c5003:ZD (Yf d) 2 8<;>cases c5004:Z3 d.Veil emp<;>
  simp only [go_sem,qy,qq,qv,qk,reduceIte,s58p4,s58p5,hn,c1,c2,c5003,c5004,DY,Z37,Z35,Z34,f1,f2,f3,f4,Z33,Fo,n1,n2,n3,n4,n5,n6,ne_eq,Nat.reduceEqDiff,not_false_eq_true]
theorem Z39 (d:Door) (x:AObj):W5 [x,XM d] false [1] false (.bool false) (.mp 1) (I d.Why)=some (.bool (He d)):=by
 unfold XM He;simp only [W5,ZOu,ZOr,QW,Wi,ZW];cases c1:d.Why==12<;>cases c2:d.Why==11<;>cases c5003:d.Why==9<;>cases c5004:d.Why==10<;>rfl
set_option maxHeartbeats 4000000 in
theorem Fp (s:Sta) (d:Door) (hd:DoS d) (rest:ACode):
 (UC d=false→Zb rE (.seq s58p6 rest) [(2,stI s),(5,.ptr 0 0 0 1),(6,.bool (exD d)),(9,I (Yf d)),(10,.mp 1)] [.row 16 [Zo d],XM d]=Zb rE rest [(2,stI s),(5,.ptr 0 0 0 1),(6,.bool (exD d)),(90,.bool false)] [.row 16 [Zo d],XM d])∧
 (UC d=true→∃ fr h,Zb rE (.seq s58p6 rest) [(2,stI s),(5,.ptr 0 0 0 1),(6,.bool (exD d)),(9,I (Yf d)),(10,.mp 1)] [.row 16 [Zo d],XM d]=some (.ret,fr,h)∧get fr 4=.bool false):=by
 have hg:=Z39 d;have hso:=Fj d.After.l d.After.ex (by have:=hd.after;omega)
 have t1:(true==true)=true:=rfl;have t2:(true==false)=false:=rfl;have t3:(false==true)=false:=rfl;have t4:(false==false)=true:=rfl;generalize XM d=m at hg ⊢;unfold UC Zo;cases c1:exD d<;>cases c2:d.Why==0<;>cases c5003:decide (Yf d > 0)<;>cases c5004:He d<;>cases c5005:Jq d.After.l<;>rw [c5004] at hg<;>rw [c5005] at hso<;>
  (constructor<;>intro hb<;>first | (exact absurd hb (by decide)) | skip)
 all_goals first
  | (simp only [go_sem,qy,qq,reduceIte,s58p6,c2,c5003,hg,hso,t1,t2,t3,t4];done)
  | (refine ⟨_,_,by simp only [go_sem,qy,qq,reduceIte,s58p6,c2,c5003,hg,hso,t1,t2,t3,t4];rfl,?_⟩;simp only [go_sem,qy])
theorem Z3a (d:Door) (hd:DoS d):EvS (NM d):=⟨ZNO _,ZNO _,ZNO _,ZNO _,hd.id,ZNO _,hd.veil⟩
theorem Z3b (d:Door) (hd:DoS d):EvS (Hf d):=⟨ZNO _,ZNO _,ZNO _,ZNO _,hd.id,hd.building,hd.street⟩
theorem Fq (s:Sta) (d:Door) (hd:DoS d) (m:AObj) (rest:ACode):
 (Z3 d.Veil emp=true→Zb rE (.seq s58p7 rest) [(2,stI s),(5,.ptr 0 0 0 1),(6,.bool (exD d)),(90,.bool false)] [.row 16 [Zo d],m]=Zb rE rest [(2,stI s),(5,.ptr 0 0 0 1),(6,.bool (exD d)),(93,.bool false)] [.row 16 [Zo d],m])∧
 (Z3 d.Veil emp=false→∃ fr h,Zb rE (.seq s58p7 rest) [(2,stI s),(5,.ptr 0 0 0 1),(6,.bool (exD d)),(90,.bool false)] [.row 16 [Zo d],m]=some (.ret,fr,h)∧get fr 4=.bool (NN d)):=by
 have hm:=Wg 15 (NM d) (Z3a d hd);have hm':pfn rE 57 [I 15,.agg [I 0,I 0,I 0,I 0,I d.Office,.str d.Id,.str emp,.str d.Veil,.isl false false 1 [],.isl false false 3 [],I 0,.str emp,I 0,I 0,I 0,I 0,.isl false false 2 [],.isl false false 7 []]]=_:=hm;have hn4:(d.Number.N==0&&(Z3 d.Number.Letter emp&&(d.Number.Num==0&&d.Number.Den==0)))=QL d.Number ⟨0,emp,0,0⟩:=rfl;have hn5:(d.Point.X==0&&d.Point.Y==0)=QK d.Point ⟨0,0⟩:=rfl;unfold NN Zo;constructor
 ·intro hv;simp only [go_sem,qy,qq,s58p7,hv]
 ·intro hv;cases c1:Z3 d.Building emp with
  | false=>refine ⟨_,_,by simp only [go_sem,qy,qq,s58p7,hv,c1];rfl,?_⟩;simp only [go_sem,qy]
  | true=>
  cases c2:Z3 d.Street emp with
  | false=>refine ⟨_,_,by simp only [go_sem,qy,qq,s58p7,hv,c1,c2];rfl,?_⟩;simp only [go_sem,qy]
  | true=>
  cases c5003:QL d.Number ⟨0,emp,0,0⟩ with
  | false=>refine ⟨_,_,by simp only [go_sem,qy,qq,qv,qk,reduceIte,s58p7,hv,c1,c2,hn4,c5003];rfl,?_⟩;simp only [go_sem,qy]
  | true=>
  cases c5004:QK d.Point ⟨0,0⟩ with
  | false=>refine ⟨_,_,by simp only [go_sem,qy,qq,qv,qk,reduceIte,s58p7,hv,c1,c2,hn4,c5003,hn5,c5004];rfl,?_⟩;simp only [go_sem,qy]
  | true=>refine ⟨_,_,by simp only [go_sem,qy,qq,qv,qk,reduceIte,s58p7,hv,c1,c2,hn4,c5003,hn5,c5004,hm'];rfl,?_⟩;simp only [go_sem,qy]
theorem QC {α:Type} {P:α→Bool} {l:List α} (h:decide (Zp P l 0 < 0)=false):∃ (j:Nat) (x:α),Zp P l 0=(j:Int)∧l[j]? = some x:=by
 rcases UA P l 0 with ⟨h1,_⟩ | ⟨j,x,h1,h2,_⟩
 ·rw [h1] at h;simp at h
 ·exact ⟨j,x,by rw [h1];omega,h2⟩
theorem Z3c (s:Sta) (hs:StS s) (d:Door) (hd:DoS d) (m:AObj):
 ∃ fr h,Zb rE (.seq s58p8 (.seq s58p9 (.seq s58p10 .ret))) [(2,stI s),(5,.ptr 0 0 0 1),(6,.bool (exD d)),(93,.bool false)] [.row 16 [Zo d],m]=some (.ret,fr,h)∧get fr 4=.bool (!NO s d&&Q9 { Hf d with Kind:=6 }):=by
 have hm:=Wg 6 (Hf d) (Z3b d hd);have hm':pfn rE 57 [I 6,.agg [I 0,I 0,I 0,I 0,I 0,.str d.Id,.str d.Building,.str d.Street,.isl false false 1 [],.isl false false 3 [],I d.Number.N,.str d.Number.Letter,I d.Number.Num,I d.Number.Den,I d.Point.X,I d.Point.Y,.isl false false 2 [],.isl false false 7 []]]=_:=hm;have hb:=Hb s hs d.Building;have ht:=K7 s hs d.Street;unfold NO Zo;cases c1:d.Office != 0 with
 | true=>refine ⟨_,_,by simp only [go_sem,qy,qq,qv,qk,reduceIte,s58p8,s58p9,s58p10,hb,ht,c1];rfl,?_⟩;simp only [go_sem,qy]
 | false=>
 cases c2:decide (Y1 s d.Building < 0) with
 | true=>refine ⟨_,_,by simp only [go_sem,qy,qq,qv,qk,reduceIte,s58p8,s58p9,s58p10,hb,ht,c1,c2];rfl,?_⟩;simp only [go_sem,qy]
 | false=>
 cases c5003:decide (ZL s d.Street < 0) with
 | true=>refine ⟨_,_,by simp only [go_sem,qy,qq,qv,qk,reduceIte,s58p8,s58p9,s58p10,hb,ht,c1,c2,c5003];rfl,?_⟩;simp only [go_sem,qy]
 | false=>
 obtain ⟨j,x,hj,hx⟩:=QC c2;obtain ⟨k,y,hk,hy⟩:=QC c5003;have hj':Y1 s d.Building=(j:Int):=hj;have hk':ZL s d.Street=(k:Int):=hk;have hbE:WL s (Y1 s d.Building)=x.Ended:=by rw [hj'];simp [WL,hx]
 have hsE:QF s (ZL s d.Street)=y.Ended:=by rw [hk'];simp [QF,hy]
 have gx:=Z6 (f:=Building.enc) hx;have gy:=Z6 (f:=Street.enc) hy;rw [hbE,hsE];rw [hj'] at hb c2;rw [hk'] at ht c5003;cases c5004:exD d with
 | false=>refine ⟨_,_,by simp only [go_sem,qy,qq,qv,qk,reduceIte,s58p8,s58p9,s58p10,hb,ht,c1,c2,c5003,hm'];rfl,?_⟩;simp only [go_sem,qy]
 | true=>
 cases c5005:x.Ended != -1 with
 | true=>refine ⟨_,_,by simp only [go_sem,qy,qq,qv,qk,reduceIte,s58p8,s58p9,s58p10,hb,ht,c1,c2,c5003,gx,Building.enc,NL.enc,c5005];rfl,?_⟩;simp only [go_sem,qy]
 | false=>
 cases c5006:y.Ended != -1 with
 | true=>refine ⟨_,_,by simp only [go_sem,qy,qq,qv,qk,reduceIte,s58p8,s58p9,s58p10,hb,ht,c1,c2,c5003,gx,gy,Building.enc,Street.enc,NL.enc,c5005,c5006];rfl,?_⟩;simp only [go_sem,qy]
 | false=>refine ⟨_,_,by simp only [go_sem,qy,qq,qv,qk,reduceIte,s58p8,s58p9,s58p10,hb,ht,c1,c2,c5003,gx,gy,Building.enc,Street.enc,NL.enc,c5005,c5006,hm'];rfl,?_⟩;simp only [go_sem,qy]
theorem Fs (s:Sta) (hs:StS s) (i:Nat) (d:Door) (hd:DoS d) (hx:s.Doors[i]? = some d):pfn rE 58 [stA s,I i]=some (.bool (Hg s i d)):=by
 rw [Z5 (f:=58) (c:=c58) rfl rfl,c58_eq];have e0:QP 0 [stA s,I i]=[(0,stA s),(1,I i)]:=rfl;rw [e0];unfold Hg;have fin:∀ (fr:Fr) (h:Hp) (b:Bool),get fr 4=.bool b→frz (fnd [ResVar.tmp 4] (some (.ret,fr,h)))=some (.bool b):=by
  intro fr h b hg;simp only [go_sem,hg]
 cases c1:K8 s i d with
 | false=>
  obtain ⟨fr,h,h1,h2⟩:=(Fm s hs i d hd hx _).2 c1;rw [h1];exact fin fr h false h2
 | true=>
  rw [(Fm s hs i d hd hx _).1 c1,Z38];cases c2:UC d with
  | true=>
   obtain ⟨fr,h,h1,h2⟩:=(Fp s d hd _).2 c2;rw [h1];exact fin fr h false h2
  | false=>
   rw [(Fp s d hd _).1 c2];cases c5003:Z3 d.Veil emp with
   | false=>
    obtain ⟨fr,h,h1,h2⟩:=(Fq s d hd (XM d) _).2 c5003;rw [h1];exact fin fr h _ h2
   | true=>
    rw [(Fq s d hd (XM d) _).1 c5003];obtain ⟨fr,h,h1,h2⟩:=Z3c s hs d hd (XM d);rw [h1];exact fin fr h _ h2
end Go.AM
namespace Go.AM
open Go
structure StE (s:Sta):Prop where
 sizes:StS s
 regions:∀ x∈s.Regions,x.Names.l.length≤100∧x.Ring.l.length≤100∧x.Id.size≤1000
 streets:∀ x∈s.Streets,x.Names.l.length≤100∧x.Line.l.length≤100∧x.Id.size≤1000
 buildings:∀ x∈s.Buildings,x.Ring.l.length≤100∧x.Id.size≤1000
 doors:∀ x∈s.Doors,DoS x
 units:∀ x∈s.Units,x.Id.size≤1000∧x.Door.size≤1000∧x.Text.size≤1000
def Jt (x:Region):Event:=⟨0,0,x.Kind,0,0,x.Id,emp,emp,⟨false,[]⟩,⟨false,[]⟩,⟨0,emp,0,0⟩,⟨0,0⟩,x.Ring,⟨false,[]⟩⟩
def Ju (x:Street):Event:=⟨0,0,0,0,0,x.Id,emp,emp,⟨false,[]⟩,⟨false,[]⟩,⟨0,emp,0,0⟩,⟨0,0⟩,x.Line,⟨false,[]⟩⟩
def Jv (x:Building):Event:=⟨0,0,0,0,0,x.Id,emp,emp,⟨false,[]⟩,⟨false,[]⟩,⟨0,emp,0,0⟩,⟨0,0⟩,x.Ring,⟨false,[]⟩⟩
def Vn (x:Unit'):Event:=⟨0,0,0,0,0,x.Id,x.Door,x.Text,⟨false,[]⟩,⟨false,[]⟩,⟨0,emp,0,0⟩,⟨0,0⟩,⟨false,[]⟩,⟨false,[]⟩⟩
def Vo (x:Region):Bool:=QM x.Owner x.Ended 0&&(Jp x.Names.l x.Names.ex&&Q9 { Jt x with Kind:=1 })
def Vp (x:Street):Bool:=QM x.Owner x.Ended 0&&(Jp x.Names.l x.Names.ex&&Q9 { Ju x with Kind:=2 })
def Vq (x:Building):Bool:=QM x.Owner x.Ended 0&&Q9 { Jv x with Kind:=5 }
def Vr (s:Sta) (i:Nat) (x:Door):Bool:=QM x.Owner x.Ended x.From&&Hg s i x
def QN (s:Sta) (k:Int):Int:=match s.Doors[k.toNat]? with | some d=>d.Ended | none=>0
def Jw (s:Sta) (x:Unit'):Bool:=(x.Ended==-1&&(x.Why != 0||QN s (Zn s x.Door) != -1))||((x.Ended != -1&&x.Why != 12)&&x.Why != 11)
def Vs (s:Sta) (x:Unit'):Bool:=!decide (Zn s x.Door < 0)&&(QM 0 x.Ended x.From&&(Q9 { Vn x with Kind:=7 }&&!Jw s x))
def Jx (s:Sta):Bool:=s.Regions.all Vo&&(s.Streets.all Vp&&(s.Buildings.all Vq&&(Zu (Vr s) 0 s.Doors&&(s.Units.all (Vs s)&&(Jq (Qp s)&&(Wh s.Doors&&WK s))))))
theorem Z3d (s:Sta) (hs:StE s):∃ fr',Zg rE [1,15,16,17] c25L0b [(1,stI s),(15,.isl false false 6 (s.Regions.map Region.enc)),(16,I s.Regions.length),(17,.int .i64 0)] [] =
 some (if Zu (fun _ x=>Vo x) 0 s.Regions=true then .exit 0 else .ret,fr',[])∧(Zu (fun _ x=>Vo x) 0 s.Regions=true→get fr' 1=stI s∧get fr' 2=.bot)∧(Zu (fun _ x=>Vo x) 0 s.Regions=false→get fr' 2=.bool false):=by
 have L:=QT (E:=rE) (live:=[1,15,16,17]) (b:=c25L0b) (h:=[]) s.Regions (fun _ x=>Vo x)
  (fun i=>[(1,stI s),(15,.isl false false 6 (s.Regions.map Region.enc)),(16,I s.Regions.length),(17,I i)]) 0
  (fun fr=>get fr 1=stI s∧get fr 2=.bot) (fun fr=>get fr 2=.bool false) (fun i=>rfl)
  (fun i x hx hP=>by
   have hg:=Z6 (f:=Region.enc) hx;have hi:=Zh (Z7 hx);have hw:=Zx (n:=i) (by have:=Z7 hx;have:=hs.sizes.regions;omega)
   have hm:=ZOa hx;obtain ⟨z1,z2,z3⟩:=hs.regions x hm;have hnm:=Hc x.Names.l x.Names.ex z1;have hmd:pfn rE 57 [I 1,.agg [I 0,I 0,I x.Kind,I 0,I 0,.str x.Id,.str emp,.str emp,.isl false false 1 [],.isl false false 3 [],I 0,.str emp,I 0,I 0,I 0,I 0,.isl false x.Ring.ex 2 (x.Ring.l.map Pt.enc),.isl false false 7 []]]=some (.bool (Q9 { Jt x with Kind:=1 })):=Wg 1 (Jt x) ⟨ZNO _,ZNO _,z2,ZNO _,z3,ZNO _,ZNO _⟩
   simp only [Vo,ZNM] at hP;obtain ⟨p1,p2,p3⟩:=hP;refine ⟨_,by simp only [go_sem,qy,qq,qv,qk,reduceIte,c25L0b,hg,hi,hw,Region.enc,NL.enc,Qc,hnm,hmd,p1,p2,p3];rfl,?_⟩
   simp only [go_sem,qy])
  (fun i x hx hP=>by
   have hg:=Z6 (f:=Region.enc) hx;have hi:=Zh (Z7 hx);have hm:=ZOa hx;obtain ⟨z1,z2,z3⟩:=hs.regions x hm;have hnm:=Hc x.Names.l x.Names.ex z1;have hmd:pfn rE 57 [I 1,.agg [I 0,I 0,I x.Kind,I 0,I 0,.str x.Id,.str emp,.str emp,.isl false false 1 [],.isl false false 3 [],I 0,.str emp,I 0,I 0,I 0,I 0,.isl false x.Ring.ex 2 (x.Ring.l.map Pt.enc),.isl false false 7 []]]=some (.bool (Q9 { Jt x with Kind:=1 })):=Wg 1 (Jt x) ⟨ZNO _,ZNO _,z2,ZNO _,z3,ZNO _,ZNO _⟩
   unfold Vo at hP;cases p1:QM x.Owner x.Ended 0 with
   | false=>
    refine ⟨_,by simp only [go_sem,qy,qq,qv,qk,reduceIte,c25L0b,hg,hi,Region.enc,NL.enc,Qc,p1];rfl,?_⟩
    simp only [go_sem,qy]
   | true=>
   cases p2:Jp x.Names.l x.Names.ex with
   | false=>
    refine ⟨_,by simp only [go_sem,qy,qq,qv,qk,reduceIte,c25L0b,hg,hi,Region.enc,NL.enc,Qc,hnm,p1,p2];rfl,?_⟩
    simp only [go_sem,qy]
   | true=>
    have p3:Q9 { Jt x with Kind:=1 }=false:=by simpa [p1,p2] using hP
    refine ⟨_,by simp only [go_sem,qy,qq,qv,qk,reduceIte,c25L0b,hg,hi,Region.enc,NL.enc,Qc,hnm,hmd,p1,p2,p3];rfl,?_⟩
    simp only [go_sem,qy])
  (⟨_,by simp only [go_sem,qy,reduceIte,c25L0b,ZG];rfl,by refine ⟨?_,?_⟩<;>simp only [go_sem,qy]⟩)
 exact L
theorem Z3e (s:Sta) (hs:StE s):∃ fr',Zg rE [1,46,47,48] c25L1b [(1,stI s),(46,.isl false false 5 (s.Streets.map Street.enc)),(47,I s.Streets.length),(48,.int .i64 0)] [] =
 some (if Zu (fun _ x=>Vp x) 0 s.Streets=true then .exit 2 else .ret,fr',[])∧(Zu (fun _ x=>Vp x) 0 s.Streets=true→get fr' 1=stI s∧get fr' 2=.bot)∧(Zu (fun _ x=>Vp x) 0 s.Streets=false→get fr' 2=.bool false):=by
 have L:=QT (E:=rE) (live:=[1,46,47,48]) (b:=c25L1b) (h:=[]) s.Streets (fun _ x=>Vp x)
  (fun i=>[(1,stI s),(46,.isl false false 5 (s.Streets.map Street.enc)),(47,I s.Streets.length),(48,I i)]) 2
  (fun fr=>get fr 1=stI s∧get fr 2=.bot) (fun fr=>get fr 2=.bool false) (fun i=>rfl)
  (fun i x hx hP=>by
   have hg:=Z6 (f:=Street.enc) hx;have hi:=Zh (Z7 hx);have hw:=Zx (n:=i) (by have:=Z7 hx;have:=hs.sizes.streets;omega)
   have hm:=ZOa hx;obtain ⟨z1,z2,z3⟩:=hs.streets x hm;have hnm:=Hc x.Names.l x.Names.ex z1;have hmd:pfn rE 57 [I 2,.agg [I 0,I 0,I 0,I 0,I 0,.str x.Id,.str emp,.str emp,.isl false false 1 [],.isl false false 3 [],I 0,.str emp,I 0,I 0,I 0,I 0,.isl false x.Line.ex 2 (x.Line.l.map Pt.enc),.isl false false 7 []]]=some (.bool (Q9 { Ju x with Kind:=2 })):=Wg 2 (Ju x) ⟨ZNO _,ZNO _,z2,ZNO _,z3,ZNO _,ZNO _⟩
   simp only [Vp,ZNM] at hP;obtain ⟨p1,p2,p3⟩:=hP;refine ⟨_,by simp only [go_sem,qy,qq,qv,qk,reduceIte,c25L1b,hg,hi,hw,Street.enc,NL.enc,Qc,hnm,hmd,p1,p2,p3];rfl,?_⟩
   simp only [go_sem,qy])
  (fun i x hx hP=>by
   have hg:=Z6 (f:=Street.enc) hx;have hi:=Zh (Z7 hx);have hm:=ZOa hx;obtain ⟨z1,z2,z3⟩:=hs.streets x hm;have hnm:=Hc x.Names.l x.Names.ex z1;have hmd:pfn rE 57 [I 2,.agg [I 0,I 0,I 0,I 0,I 0,.str x.Id,.str emp,.str emp,.isl false false 1 [],.isl false false 3 [],I 0,.str emp,I 0,I 0,I 0,I 0,.isl false x.Line.ex 2 (x.Line.l.map Pt.enc),.isl false false 7 []]]=some (.bool (Q9 { Ju x with Kind:=2 })):=Wg 2 (Ju x) ⟨ZNO _,ZNO _,z2,ZNO _,z3,ZNO _,ZNO _⟩
   unfold Vp at hP;cases p1:QM x.Owner x.Ended 0 with
   | false=>
    refine ⟨_,by simp only [go_sem,qy,qq,qv,qk,reduceIte,c25L1b,hg,hi,Street.enc,NL.enc,Qc,p1];rfl,?_⟩
    simp only [go_sem,qy]
   | true=>
   cases p2:Jp x.Names.l x.Names.ex with
   | false=>
    refine ⟨_,by simp only [go_sem,qy,qq,qv,qk,reduceIte,c25L1b,hg,hi,Street.enc,NL.enc,Qc,hnm,p1,p2];rfl,?_⟩
    simp only [go_sem,qy]
   | true=>
    have p3:Q9 { Ju x with Kind:=2 }=false:=by simpa [p1,p2] using hP
    refine ⟨_,by simp only [go_sem,qy,qq,qv,qk,reduceIte,c25L1b,hg,hi,Street.enc,NL.enc,Qc,hnm,hmd,p1,p2,p3];rfl,?_⟩
    simp only [go_sem,qy])
  (⟨_,by simp only [go_sem,qy,reduceIte,c25L1b,ZG];rfl,by refine ⟨?_,?_⟩<;>simp only [go_sem,qy]⟩)
 exact L
theorem Z3f (s:Sta) (hs:StE s):∃ fr',Zg rE [1,75,76,77] c25L2b [(1,stI s),(75,.isl false false 4 (s.Buildings.map Building.enc)),(76,I s.Buildings.length),(77,.int .i64 0)] [] =
 some (if Zu (fun _ x=>Vq x) 0 s.Buildings=true then .exit 4 else .ret,fr',[])∧(Zu (fun _ x=>Vq x) 0 s.Buildings=true→get fr' 1=stI s∧get fr' 2=.bot)∧(Zu (fun _ x=>Vq x) 0 s.Buildings=false→get fr' 2=.bool false):=by
 have L:=QT (E:=rE) (live:=[1,75,76,77]) (b:=c25L2b) (h:=[]) s.Buildings (fun _ x=>Vq x)
  (fun i=>[(1,stI s),(75,.isl false false 4 (s.Buildings.map Building.enc)),(76,I s.Buildings.length),(77,I i)]) 4
  (fun fr=>get fr 1=stI s∧get fr 2=.bot) (fun fr=>get fr 2=.bool false) (fun i=>rfl)
  (fun i x hx hP=>by
   have hg:=Z6 (f:=Building.enc) hx;have hi:=Zh (Z7 hx);have hw:=Zx (n:=i) (by have:=Z7 hx;have:=hs.sizes.buildings;omega)
   have hm:=ZOa hx;obtain ⟨z2,z3⟩:=hs.buildings x hm;have hmd:pfn rE 57 [I 5,.agg [I 0,I 0,I 0,I 0,I 0,.str x.Id,.str emp,.str emp,.isl false false 1 [],.isl false false 3 [],I 0,.str emp,I 0,I 0,I 0,I 0,.isl false x.Ring.ex 2 (x.Ring.l.map Pt.enc),.isl false false 7 []]]=some (.bool (Q9 { Jv x with Kind:=5 })):=Wg 5 (Jv x) ⟨ZNO _,ZNO _,z2,ZNO _,z3,ZNO _,ZNO _⟩
   simp only [Vq,ZNM] at hP;obtain ⟨p1,p3⟩:=hP;refine ⟨_,by simp only [go_sem,qy,qq,qv,qk,reduceIte,c25L2b,hg,hi,hw,Building.enc,NL.enc,Qc,hmd,p1,p3];rfl,?_⟩
   simp only [go_sem,qy])
  (fun i x hx hP=>by
   have hg:=Z6 (f:=Building.enc) hx;have hi:=Zh (Z7 hx);have hm:=ZOa hx;obtain ⟨z2,z3⟩:=hs.buildings x hm;have hmd:pfn rE 57 [I 5,.agg [I 0,I 0,I 0,I 0,I 0,.str x.Id,.str emp,.str emp,.isl false false 1 [],.isl false false 3 [],I 0,.str emp,I 0,I 0,I 0,I 0,.isl false x.Ring.ex 2 (x.Ring.l.map Pt.enc),.isl false false 7 []]]=some (.bool (Q9 { Jv x with Kind:=5 })):=Wg 5 (Jv x) ⟨ZNO _,ZNO _,z2,ZNO _,z3,ZNO _,ZNO _⟩
   unfold Vq at hP;cases p1:QM x.Owner x.Ended 0 with
   | false=>
    refine ⟨_,by simp only [go_sem,qy,qq,qv,qk,reduceIte,c25L2b,hg,hi,Building.enc,NL.enc,Qc,p1];rfl,?_⟩
    simp only [go_sem,qy]
   | true=>
    have p3:Q9 { Jv x with Kind:=5 }=false:=by simpa [p1] using hP
    refine ⟨_,by simp only [go_sem,qy,qq,qv,qk,reduceIte,c25L2b,hg,hi,Building.enc,NL.enc,Qc,hmd,p1,p3];rfl,?_⟩
    simp only [go_sem,qy])
  (⟨_,by simp only [go_sem,qy,reduceIte,c25L2b,ZG];rfl,by refine ⟨?_,?_⟩<;>simp only [go_sem,qy]⟩)
 exact L
theorem Z3g (s:Sta) (hs:StE s):∃ fr',Zg rE [1,98,99,100] c25L3b [(1,stI s),(98,.isl false false 16 (s.Doors.map Door.enc)),(99,I s.Doors.length),(100,.int .i64 0)] [] =
 some (if Zu (Vr s) 0 s.Doors=true then .exit 6 else .ret,fr',[])∧(Zu (Vr s) 0 s.Doors=true→get fr' 1=stI s∧get fr' 2=.bot)∧(Zu (Vr s) 0 s.Doors=false→get fr' 2=.bool false):=by
 have L:=QT (E:=rE) (live:=[1,98,99,100]) (b:=c25L3b) (h:=[]) s.Doors (Vr s)
  (fun i=>[(1,stI s),(98,.isl false false 16 (s.Doors.map Door.enc)),(99,I s.Doors.length),(100,I i)]) 6
  (fun fr=>get fr 1=stI s∧get fr 2=.bot) (fun fr=>get fr 2=.bool false) (fun i=>rfl)
  (fun i x hx hP=>by
   have hg:=Z6 (f:=Door.enc) hx;have hi:=Zh (Z7 hx);have hw:=Zx (n:=i) (by have:=Z7 hx;have:=hs.sizes.doors;omega)
   have hm:=ZOa hx;have hst:=Fs s hs.sizes i x (hs.doors x hm) hx;simp only [Vr,ZNM] at hP;obtain ⟨p1,p3⟩:=hP;refine ⟨_,by simp only [go_sem,qy,qq,qv,qk,reduceIte,c25L3b,hg,hi,hw,Door.enc,NL.enc,Qc,hst,p1,p3];rfl,?_⟩
   simp only [go_sem,qy])
  (fun i x hx hP=>by
   have hg:=Z6 (f:=Door.enc) hx;have hi:=Zh (Z7 hx);have hm:=ZOa hx;have hst:=Fs s hs.sizes i x (hs.doors x hm) hx;unfold Vr at hP;cases p1:QM x.Owner x.Ended x.From with
   | false=>
    refine ⟨_,by simp only [go_sem,qy,qq,qv,qk,reduceIte,c25L3b,hg,hi,Door.enc,NL.enc,Qc,p1];rfl,?_⟩
    simp only [go_sem,qy]
   | true=>
    have p3:Hg s i x=false:=by simpa [p1] using hP
    refine ⟨_,by simp only [go_sem,qy,qq,qv,qk,reduceIte,c25L3b,hg,hi,Door.enc,NL.enc,Qc,hst,p1,p3];rfl,?_⟩
    simp only [go_sem,qy])
  (⟨_,by simp only [go_sem,qy,reduceIte,c25L3b,ZG];rfl,by refine ⟨?_,?_⟩<;>simp only [go_sem,qy]⟩)
 exact L
theorem Z3h (s:Sta) (hs:StE s):∃ fr',Zg rE [1,121,122,123] c25L4b [(1,stI s),(121,.isl false false 6 (s.Units.map Unit'.enc)),(122,I s.Units.length),(123,.int .i64 0)] [] =
 some (if Zu (fun _ x=>Vs s x) 0 s.Units=true then .exit 8 else .ret,fr',[])∧(Zu (fun _ x=>Vs s x) 0 s.Units=true→get fr' 1=stI s∧get fr' 2=.bot)∧(Zu (fun _ x=>Vs s x) 0 s.Units=false→get fr' 2=.bool false):=by
 have L:=QT (E:=rE) (live:=[1,121,122,123]) (b:=c25L4b) (h:=[]) s.Units (fun _ x=>Vs s x)
  (fun i=>[(1,stI s),(121,.isl false false 6 (s.Units.map Unit'.enc)),(122,I s.Units.length),(123,I i)]) 8
  (fun fr=>get fr 1=stI s∧get fr 2=.bot) (fun fr=>get fr 2=.bool false) (fun i=>rfl)
  (fun i x hx hP=>by
   have hg:=Z6 (f:=Unit'.enc) hx;have hi:=Zh (Z7 hx);have hw:=Zx (n:=i) (by have:=Z7 hx;have:=hs.sizes.units;omega)
   have hm:=ZOa hx;obtain ⟨z1,z2,z3⟩:=hs.units x hm;have hf:=find_ok s hs.sizes x.Door;have hmd:pfn rE 57 [I 7,.agg [I 0,I 0,I 0,I 0,I 0,.str x.Id,.str x.Door,.str x.Text,.isl false false 1 [],.isl false false 3 [],I 0,.str emp,I 0,I 0,I 0,I 0,.isl false false 2 [],.isl false false 7 []]]=some (.bool (Q9 { Vn x with Kind:=7 })):=Wg 7 (Vn x) ⟨ZNO _,ZNO _,ZNO _,ZNO _,z1,z2,z3⟩
   unfold Vs at hP;have p0:decide (Zn s x.Door < 0)=false:=by cases h:decide (Zn s x.Door < 0)<;>simp_all
   have p1:QM 0 x.Ended x.From=true:=by cases h:QM 0 x.Ended x.From<;>simp_all
   have p2:Q9 { Vn x with Kind:=7 }=true:=by cases h:Q9 { Vn x with Kind:=7 }<;>simp_all
   have p3:Jw s x=false:=by cases h:Jw s x<;>simp_all
   obtain ⟨j,y,hj,hy⟩:=QC p0;have hj':Zn s x.Door=(j:Int):=hj;have gy:=Z6 (f:=Door.enc) hy;have hdE:QN s (Zn s x.Door)=y.Ended:=by rw [hj'];simp [QN,hy]
   unfold Jw at p3;rw [hdE] at p3;rw [hj'] at hf p0;have ne:(x.Ended != -1) = !(x.Ended==-1):=rfl;rw [ne] at p3;cases q1:x.Ended==-1 with
   | true=>
    have ne':(x.Ended != -1)=false:=by rw [ne,q1];rfl
    have q2:(x.Why != 0)=false:=by cases h:x.Why != 0<;>simp_all
    have q3:(y.Ended != -1)=false:=by cases h:y.Ended != -1<;>simp_all
    refine ⟨_,by simp only [go_sem,qy,qq,qv,qk,reduceIte,c25L4b,hg,hi,hw,gy,Unit'.enc,Door.enc,NL.enc,Qc,hf,hmd,p0,p1,p2,q1,q2,q3,ne'];rfl,?_⟩
    simp only [go_sem,qy]
   | false=>
    have ne':(x.Ended != -1)=true:=by rw [ne,q1];rfl
    cases q4:x.Why != 12 with
    | false=>
     refine ⟨_,by simp only [go_sem,qy,qq,qv,qk,reduceIte,c25L4b,hg,hi,hw,Unit'.enc,Qc,hf,hmd,p0,p1,p2,q1,ne',q4];rfl,?_⟩
     simp only [go_sem,qy]
    | true=>
     have q5:(x.Why != 11)=false:=by cases h:x.Why != 11<;>simp_all
     refine ⟨_,by simp only [go_sem,qy,qq,qv,qk,reduceIte,c25L4b,hg,hi,hw,Unit'.enc,Qc,hf,hmd,p0,p1,p2,q1,ne',q4,q5];rfl,?_⟩
     simp only [go_sem,qy])
  (fun i x hx hP=>by
   have hg:=Z6 (f:=Unit'.enc) hx;have hi:=Zh (Z7 hx);have hm:=ZOa hx;obtain ⟨z1,z2,z3⟩:=hs.units x hm;have hf:=find_ok s hs.sizes x.Door;have hmd:pfn rE 57 [I 7,.agg [I 0,I 0,I 0,I 0,I 0,.str x.Id,.str x.Door,.str x.Text,.isl false false 1 [],.isl false false 3 [],I 0,.str emp,I 0,I 0,I 0,I 0,.isl false false 2 [],.isl false false 7 []]]=some (.bool (Q9 { Vn x with Kind:=7 })):=Wg 7 (Vn x) ⟨ZNO _,ZNO _,ZNO _,ZNO _,z1,z2,z3⟩
   unfold Vs at hP;cases p0:decide (Zn s x.Door < 0) with
   | true=>
    refine ⟨_,by simp only [go_sem,qy,qq,qv,qk,reduceIte,c25L4b,hg,hi,Unit'.enc,hf,p0];rfl,?_⟩
    simp only [go_sem,qy]
   | false=>
   cases p1:QM 0 x.Ended x.From with
   | false=>
    refine ⟨_,by simp only [go_sem,qy,qq,qv,qk,reduceIte,c25L4b,hg,hi,Unit'.enc,hf,p0,Qc,p1];rfl,?_⟩
    simp only [go_sem,qy]
   | true=>
   cases p2:Q9 { Vn x with Kind:=7 } with
   | false=>
    refine ⟨_,by simp only [go_sem,qy,qq,qv,qk,reduceIte,c25L4b,hg,hi,Unit'.enc,hf,p0,Qc,p1,hmd,p2];rfl,?_⟩
    simp only [go_sem,qy]
   | true=>
   have p3:Jw s x=true:=by simpa [p0,p1,p2] using hP
   obtain ⟨j,y,hj,hy⟩:=QC p0;have hj':Zn s x.Door=(j:Int):=hj;have gy:=Z6 (f:=Door.enc) hy;have hdE:QN s (Zn s x.Door)=y.Ended:=by rw [hj'];simp [QN,hy]
   unfold Jw at p3;rw [hdE] at p3;rw [hj'] at hf p0;have ne:(x.Ended != -1) = !(x.Ended==-1):=rfl;rw [ne] at p3;cases q1:x.Ended==-1 with
   | true=>
    have ne':(x.Ended != -1)=false:=by rw [ne,q1];rfl
    cases q2:x.Why != 0 with
    | true=>
     refine ⟨_,by simp only [go_sem,qy,qq,qv,qk,reduceIte,c25L4b,hg,hi,Unit'.enc,Qc,hf,hmd,p0,p1,p2,q1,q2];rfl,?_⟩
     simp only [go_sem,qy]
    | false=>
     have q3:(y.Ended != -1)=true:=by simpa [q1,q2] using p3
     refine ⟨_,by simp only [go_sem,qy,qq,qv,qk,reduceIte,c25L4b,hg,hi,gy,Unit'.enc,Door.enc,NL.enc,Qc,hf,hmd,p0,p1,p2,q1,q2,q3];rfl,?_⟩
     simp only [go_sem,qy]
   | false=>
    have ne':(x.Ended != -1)=true:=by rw [ne,q1];rfl
    have q4:(x.Why != 12)=true:=by cases h:x.Why != 12<;>simp_all
    have q5:(x.Why != 11)=true:=by cases h:x.Why != 11<;>simp_all
    refine ⟨_,by simp only [go_sem,qy,qq,qv,qk,reduceIte,c25L4b,hg,hi,Unit'.enc,Qc,hf,hmd,p0,p1,p2,q1,ne',q4,q5];rfl,?_⟩
    simp only [go_sem,qy])
  (⟨_,by simp only [go_sem,qy,reduceIte,c25L4b,ZG];rfl,by refine ⟨?_,?_⟩<;>simp only [go_sem,qy]⟩)
 exact L
theorem Z3i (s:Sta) (hs:StE s):pfn rE 25 [stA s]=some (.bool (Jx s)):=by
 obtain ⟨f0,a0,b0,d0⟩:=Z3d s hs;obtain ⟨f1,a1,b1,d1⟩:=Z3e s hs;obtain ⟨f2,a2,b2,d2⟩:=Z3f s hs;obtain ⟨f3,a3,b3,d3⟩:=Z3g s hs;obtain ⟨f4,a4,b4,d4⟩:=Z3h s hs;rw [QE] at a0 b0 d0 a1 b1 d1 a2 b2 d2 a4 b4 d4;have hi:=Fd s hs.sizes;have hso:=Fj (Qp s) false (by have h1:=hs.sizes.regions;have h2:=hs.sizes.streets;have h3:=hs.sizes.buildings;have h4:=hs.sizes.doors;have h5:=hs.sizes.units;simp [Qp];omega)
 have hn:=Fk s hs.sizes;have hp:=Z31 s hs.sizes;rw [Z5 (f:=25) rfl rfl];unfold Jx;cases c0:s.Regions.all Vo with
 | false=>rw [c0] at a0;simp only [go_sem,qy,qq,reduceIte,c25,c25L0,a0,d0 c0,ZNY]
 | true=>
 rw [c0,if_pos rfl] at a0;obtain ⟨p0,q0⟩:=b0 c0;cases c1:s.Streets.all Vp with
 | false=>rw [c1] at a1;simp only [go_sem,qy,qq,reduceIte,c25,c25L0,c25L1,a0,p0,q0,a1,d1 c1,ZNY]
 | true=>
 rw [c1,if_pos rfl] at a1;obtain ⟨p1,q1⟩:=b1 c1;cases c2:s.Buildings.all Vq with
 | false=>rw [c2] at a2;simp only [go_sem,qy,qq,reduceIte,c25,c25L0,c25L1,c25L2,a0,p0,q0,a1,p1,q1,a2,d2 c2,ZNY]
 | true=>
 rw [c2,if_pos rfl] at a2;obtain ⟨p2,q2⟩:=b2 c2;cases c5003:Zu (Vr s) 0 s.Doors with
 | false=>rw [c5003] at a3;simp only [go_sem,qy,qq,reduceIte,c25,c25L0,c25L1,c25L2,c25L3,a0,p0,q0,a1,p1,q1,a2,p2,q2,a3,d3 c5003,ZNY]
 | true=>
 rw [c5003,if_pos rfl] at a3;obtain ⟨p3,q3⟩:=b3 c5003;cases c5004:s.Units.all (Vs s) with
 | false=>rw [c5004] at a4;simp only [go_sem,qy,qq,reduceIte,c25,c25L0,c25L1,c25L2,c25L3,c25L4,a0,p0,q0,a1,p1,q1,a2,p2,q2,a3,p3,q3,a4,d4 c5004,ZNY]
 | true=>
 rw [c5004,if_pos rfl] at a4;obtain ⟨p4,q4⟩:=b4 c5004;cases c5005:Jq (Qp s)<;>cases c5006:Wh s.Doors<;>rw [c5005] at hso<;>rw [c5006] at hn<;>
  simp only [go_sem,qy,qq,qk,c25,c25L0,c25L1,c25L2,c25L3,c25L4,a0,p0,q0,a1,p1,q1,a2,p2,q2,a3,p3,q3,a4,p4,q4,hi,hso,hn,hp]
end Go.AM
namespace Go.AM
open Go
def ibr (h:Hp) (a b c:Bool):DRec:=bif a&&(!b&&!c) then ⟨false,[],some h.length,none⟩ else ⟨false,[],none,none⟩
theorem Zqa (h:Hp):ibr h true false false=⟨false,[],some h.length,none⟩:=rfl
theorem Zqb (h:Hp) (c:Bool):ibr h true true c=⟨false,[],none,none⟩:=rfl
theorem Zqc (h:Hp):ibr h true false true=⟨false,[],none,none⟩:=rfl
theorem Zqd {E:Env} {sz:Nat} {x:Arg} {fr:Fr} {h:Hp}:Za E (.ibox sz x) fr h=ibr h (fits sz (ev E (Z2 x.slots fr) x)) (Z4 (ev E (Z2 x.slots fr) x).cells) (Zi (ev E (Z2 x.slots fr) x).cells):=by
 simp only [Za,Z8,AOp.slots];cases fits sz (ev E (Z2 x.slots fr) x)<;>cases Z4 (ev E (Z2 x.slots fr) x).cells<;>cases Zi (ev E (Z2 x.slots fr) x).cells<;>rfl
attribute [go_sem] Zqd Zqa Zqb Zqc
end Go.AM
namespace Go.AM
open Go
def hfX (q:Int) (p:Int):Int:=W (W (2 * q) - p)
def ZoX (p a b:Pt):Int:=W (W (hfX a.X p.X * hfX b.Y p.Y) - W (hfX a.Y p.Y * hfX b.X p.X))
def Zp9 (p a b:Pt):Bool:=ZoX p a b==0&&decide (W (W (hfX a.X p.X * hfX b.X p.X)+W (hfX a.Y p.Y * hfX b.Y p.Y))≤0)
def Zp4 (p a b:Pt) (w:Int):Int:=
 bif decide (hfX a.Y p.Y≤0)&&(decide (hfX b.Y p.Y > 0)&&decide (ZoX p a b > 0)) then W (w+1)
 else bif decide (hfX a.Y p.Y > 0)&&(decide (hfX b.Y p.Y≤0)&&decide (ZoX p a b < 0)) then W (w - 1) else w
def ZoP (p:Pt) (l:List Pt) (st:Int×Bool) (i:Nat):Int×Bool:=
 (Zp4 p (pAt l i) (pAt l ((i+1) % l.length)) st.1,st.2||Zp9 p (pAt l i) (pAt l ((i+1) % l.length)))
def ZoC (l:List Pt) (p:Pt):Int×Bool:=(List.range l.length).foldl (ZoP p l) (0,false)
def ZoD (v:AV) (p:Pt):Fr:=[(14,.clo (.func 276) [] [.iptr false [v]]),(13,v),(0,v),(3,.iptr false [I p.X,I p.Y]),(4,.ptr 0 0 0 1),(5,.ptr 1 0 0 1)]
def hfH (v:AV) (p:Pt) (st:Int×Bool):Hp:=[.row 1 [I st.1],.row 1 [.bool st.2],.loop .ready .normal (ZoD v p) [15,16] c284R0a c284R0b]
def hfD:ACode:=
 .keep []<|.block 2<|
  .seq (.keep [4,9,11,12,63]<|.region [o 64 (.mv (.t 9)),
   o 65 (.bin .leq (.t 64) (.c (.int .i64 0))),
   o 66 (.mv (.t 65)),
   og 67 (.mv (.t 11)) 66 true,
   og 68 (.bin .gtr (.t 67) (.c (.int .i64 0))) 66 true,
   o 69 (.pick (.t 66) (.t 68) (.c (.bool false))),
   o 70 (.mv (.t 69)),
   og 71 (.mv (.t 12)) 70 true,
   og 72 (.bin .gtr (.t 71) (.c (.int .i64 0))) 70 true,
   o 73 (.pick (.t 70) (.t 72) (.c (.bool false))),
   o 63 (.mv (.t 73))])<|
  .cond (.t 63)
   (.keep []<|.region [o 74 (.load none (.t 4)),
    o 75 (.bin .add (.t 74) (.c (.int .i64 1))),
    ⟨none,.store 1 (.t 4) (.t 75),none⟩])
   (.seq (.keep [4,76]<|.region [o 77 (.mv (.t 9)),
     o 78 (.bin .gtr (.t 77) (.c (.int .i64 0))),
     o 79 (.mv (.t 78)),
     og 80 (.mv (.t 11)) 79 true,
     og 81 (.bin .leq (.t 80) (.c (.int .i64 0))) 79 true,
     o 82 (.pick (.t 79) (.t 81) (.c (.bool false))),
     o 83 (.mv (.t 82)),
     og 84 (.mv (.t 12)) 83 true,
     og 85 (.bin .lss (.t 84) (.c (.int .i64 0))) 83 true,
     o 86 (.pick (.t 83) (.t 85) (.c (.bool false))),
     o 76 (.mv (.t 86))])<|
    .cond (.t 76)
     (.keep []<|.region [o 87 (.load none (.t 4)),
      o 88 (.bin .sub (.t 87) (.c (.int .i64 1))),
      ⟨none,.store 1 (.t 4) (.t 88),none⟩])
     (.skip))
def hfB:ACode:=
 .keep []<|.block 1<|
  .seq (.keep [4,5,8,9,10,11]<|.draw [[],[],[],[],[],[],[],[],[],[],[],[],[],[],[],[],[],[],[],[],[],[],[],[],[],[],[]]
   [o 17 (.fadr 0 (.t 6)),
   o 18 (.load none (.t 17)),
   o 19 (.bin .mul (.c (.int .i64 2)) (.t 18)),
   o 20 (.fadr 0 (.t 3)),
   o 21 (.load none (.t 20)),
   o 22 (.bin .sub (.t 19) (.t 21)),
   o 23 (.fadr 1 (.t 6)),
   o 24 (.load none (.t 23)),
   o 25 (.bin .mul (.c (.int .i64 2)) (.t 24)),
   o 26 (.fadr 1 (.t 3)),
   o 27 (.load none (.t 26)),
   o 28 (.bin .sub (.t 25) (.t 27)),
   o 29 (.fadr 0 (.t 7)),
   o 30 (.load none (.t 29)),
   o 31 (.bin .mul (.c (.int .i64 2)) (.t 30)),
   o 32 (.fadr 0 (.t 3)),
   o 33 (.load none (.t 32)),
   o 34 (.bin .sub (.t 31) (.t 33)),
   o 35 (.fadr 1 (.t 7)),
   o 36 (.load none (.t 35)),
   o 37 (.bin .mul (.c (.int .i64 2)) (.t 36)),
   o 38 (.fadr 1 (.t 3)),
   o 39 (.load none (.t 38)),
   o 40 (.bin .sub (.t 37) (.t 39)),
   o 8 (.mv (.t 22)),
   o 9 (.mv (.t 28)),
   o 10 (.mv (.t 34))]
   [o 11 (.mv (.t 40))])<|
  .seq (.keep [4,5,8,9,10,11,12]<|.region [o 41 (.mv (.t 8)),
   o 42 (.mv (.t 11)),
   o 43 (.bin .mul (.t 41) (.t 42)),
   o 44 (.mv (.t 9)),
   o 45 (.mv (.t 10)),
   o 46 (.bin .mul (.t 44) (.t 45)),
   o 47 (.bin .sub (.t 43) (.t 46)),
   o 12 (.mv (.t 47))])<|
  .seq (.keep [4,9,11,12]<|.region [o 48 (.load none (.t 5)),
   o 49 (.mv (.t 48)),
   og 50 (.mv (.t 12)) 49 false,
   og 51 (.bin .eql (.t 50) (.c (.int .i64 0))) 49 false,
   og 52 (.mv (.t 51)) 49 false,
   og 53 (.mv (.t 8)) 52 true,
   og 54 (.mv (.t 10)) 52 true,
   og 55 (.bin .mul (.t 53) (.t 54)) 52 true,
   og 56 (.mv (.t 9)) 52 true,
   og 57 (.mv (.t 11)) 52 true,
   og 58 (.bin .mul (.t 56) (.t 57)) 52 true,
   og 59 (.bin .add (.t 55) (.t 58)) 52 true,
   og 60 (.bin .leq (.t 59) (.c (.int .i64 0))) 52 true,
   og 61 (.pick (.t 52) (.t 60) (.c (.bool false))) 49 false,
   o 62 (.pick (.t 49) (.c (.bool true)) (.t 61)),
   ⟨none,.store 1 (.t 5) (.t 62),none⟩])<|
  hfD
theorem Zqk (p a b:Pt) (w:Int) (F:Fr) (hb6:Zd 6 (frV F)=true) (x:Bool) (r3 r4 r5:AObj) (h3:∀ n,2≤n→Zj n r3=true) (h4:∀ n,2≤n→Zj n r4=true) (h5:∀ n,2≤n→Zj n r5=true):
 Zb rE hfD [(4,.ptr 0 0 0 1),(9,I (hfX a.Y p.Y)),(11,I (hfX b.Y p.Y)),(12,I (ZoX p a b))] [.row 1 [I w],.row 1 [.bool x],.loop .busy .normal F [15,16] c284R0a c284R0b,r3,r4,r5] =
  some (.normal,[],[.row 1 [I (Zp4 p a b w)],.row 1 [.bool x],.loop .busy .normal F [15,16] c284R0a c284R0b,r3,r4,r5]):=by
 have t6:decide (hfX a.Y p.Y > 0) = !decide (hfX a.Y p.Y≤0):=by by_cases c:hfX a.Y p.Y≤0<;>simp [c]<;>omega
 have t7:decide (hfX b.Y p.Y≤0) = !decide (hfX b.Y p.Y > 0):=by by_cases c:hfX b.Y p.Y > 0<;>simp [c]<;>omega
 have q3:=h3 6 (by decide)
 have q4:=h4 6 (by decide)
 have q5:=h5 6 (by decide)
 unfold Zp4;rw [t6,t7];generalize hfX a.Y p.Y=ay at *;generalize hfX b.Y p.Y=by' at *
 generalize ZoX p a b=tn at *;cases d3:decide (ay≤0) with
 | true=>
  cases d4:decide (by' > 0) with
  | true=>
   rw [d3] at t6;cases d5:decide (tn > 0) with
   | true=>simp only [go_sem,qy,qq,qx,qz,qv,qk,reduceIte,hfD,d3,d4,d5,hb6,q3,q4,q5]
   | false=>simp only [go_sem,qy,qq,qx,qz,qv,qk,reduceIte,hfD,d3,d4,d5,t6,hb6,q3,q4,q5,ZNN,ZOq,ZO4,cond_false]
  | false=>
   rw [d3] at t6;simp only [go_sem,qy,qq,qx,qz,qv,qk,reduceIte,hfD,d3,d4,t6,hb6,q3,q4,q5,ZNN,ZOq,ZO4,cond_false]
 | false=>
  rw [d3] at t6;cases d4:decide (by' > 0) with
  | true=>
   rw [d4] at t7;simp only [go_sem,qy,qq,qx,qz,qv,qk,reduceIte,hfD,d3,t6,t7,hb6,q3,q4,q5,ZNN,ZNS,ZOq,ZO4,cond_false]
  | false=>
   rw [d4] at t7;cases d8:decide (tn < 0) with
   | true=>simp only [go_sem,qy,qq,qx,qz,qv,qk,reduceIte,hfD,d3,t6,t7,d8,hb6,q3,q4,q5,ZNS,ZO4,cond_false,ZO7,cond_true]
   | false=>simp only [go_sem,qy,qq,qx,qz,qv,qk,reduceIte,hfD,d3,t6,t7,d8,hb6,q3,q4,q5,ZNS,ZO4,cond_false,ZOq]
theorem Zql (v:AV) (hv:∀ n,bel n v=true) (p:Pt) (st:Int×Bool) (q a b:Pt):
 U4 rE 2 [.agg [I a.X,I a.Y],.agg [I b.X,I b.Y]] (hfH v p st++[.row 2 [.agg [I q.X,I q.Y]]]) =
  some (.bool true,hfH v p (Zp4 p a b st.1,st.2||Zp9 p a b)++[.row 2 [.agg [I q.X,I q.Y]],.row 2 [.agg [I a.X,I a.Y]],.row 2 [.agg [I b.X,I b.Y]]]):=by
 have h:=Ss (E:=rE) (b:=2) (args:=[.agg [I a.X,I a.Y],.agg [I b.X,I b.Y]]) (h:=hfH v p st++[.row 2 [.agg [I q.X,I q.Y]]]) (fr:=ZoD v p) (ps:=[15,16]) (assign:=c284R0a) (body:=c284R0b)
  (fr0:=(16,.agg [I b.X,I b.Y])::(15,.agg [I a.X,I a.Y])::ZoD v p) rfl rfl (by simp only [go_sem,qy,qq,qk,c284R0a,hfH,ZoD]<;>rfl) (by rfl)
  (e:=.normal) (fr2:=[]) (h2:=[.row 1 [I (Zp4 p a b st.1)],.row 1 [.bool (st.2||Zp9 p a b)],.loop .busy .normal (ZoD v p) [15,16] c284R0a c284R0b,.row 2 [.agg [I q.X,I q.Y]],.row 2 [.agg [I a.X,I a.Y]],.row 2 [.agg [I b.X,I b.Y]]])
  (by
   show Zb rE hfB [(7,.ptr 5 0 0 1),(6,.ptr 4 0 0 1),(16,.agg [I b.X,I b.Y]),(15,.agg [I a.X,I a.Y]),(14,.clo (.func 276) [] [.iptr false [v]]),(13,v),(0,v),(3,.iptr false [I p.X,I p.Y]),(4,.ptr 0 0 0 1),(5,.ptr 1 0 0 1)]
    [.row 1 [I st.1],.row 1 [.bool st.2],.loop .busy .normal (ZoD v p) [15,16] c284R0a c284R0b,.row 2 [.agg [I q.X,I q.Y]],.row 2 [.agg [I a.X,I a.Y]],.row 2 [.agg [I b.X,I b.Y]]]=_
   have hb6:Zd 6 (frV (ZoD v p))=true:=by simp only [go_sem,qv,ZoD,hv]
   have hr:∀ (z:Pt) n,2≤n→Zj n (.row 2 [.agg [I z.X,I z.Y]])=true:=fun z n _=>rfl
   have hL:=fun x=>Zqk p a b st.1 (ZoD v p) hb6 x (.row 2 [.agg [I q.X,I q.Y]]) (.row 2 [.agg [I a.X,I a.Y]]) (.row 2 [.agg [I b.X,I b.Y]]) (hr q) (hr a) (hr b)
   simp only [hfX,ZoX] at hL;unfold Zp9 ZoX hfX;cases c1:st.2 with
   | true=>
    rw [ZO8];simp only [go_sem,qy,qq,qv,reduceIte,hfB,hb6,hL]
   | false=>
    rw [ZOE];cases d1:W (W (W (W (2 * a.X) - p.X) * W (W (2 * b.Y) - p.Y)) - W (W (W (2 * a.Y) - p.Y) * W (W (2 * b.X) - p.X)))==0 with
    | true=>simp only [go_sem,qy,qq,qv,reduceIte,hfB,hb6,hL,d1,ZNX]
    | false=>simp only [go_sem,qy,qq,qv,reduceIte,hfB,hb6,hL,d1,ZO4]) (by rfl)
 exact h
theorem Zqm (l:List Pt) (ex:Bool) (hl:l.length≤1000000) (p:Pt):pfn rE 284 [.isl false ex 2 (l.map Pt.enc),.agg [I p.X,I p.Y]]=some (.tup [I (ZoC l p).1,.bool (ZoC l p).2]):=by
 have hv:∀ n,bel n (.isl false ex 2 (l.map Pt.enc))=true:=fun n=>by
  have:=ZN (n:=n) [.isl false ex 2 (l.map Pt.enc)] (by have:=Zw (f:=Pt.enc) (fun t=>rfl) l;simp only [go_sem])
  unfold Zd at this;rw [ZNM] at this;exact this.1
 have hb3:Zd 3 (frV (ZoD (.isl false ex 2 (l.map Pt.enc)) p))=true:=by simp only [go_sem,qv,ZoD,hv]
 have L:=Y8 (E:=rE) (live:=[0,1,5,6,7]) (b:=c276L0b) l.length (fun i=>[(0,.yld 2),(1,.iptr false [.isl false ex 2 (l.map Pt.enc)]),(5,.isl false ex 2 (l.map Pt.enc)),(6,I l.length),(7,I i)])
  (fun i=>hfH (.isl false ex 2 (l.map Pt.enc)) p ((List.range i).foldl (ZoP p l) (0,false))) (fun i=>rfl)
  (fun i hi=>by
   have h0:0 < l.length:=by omega
   have hg:=YN hi;have hg2:=YN (l:=l) (ZOs (i+1) h0);have hi':=Zh hi;have hw:=Zx (n:=i) (by omega)
   have hn:=nat_ne h0;have hy:=Zql (.isl false ex 2 (l.map Pt.enc)) hv p ((List.range i).foldl (ZoP p l) (0,false)) (pAt l i) (pAt l i) (pAt l ((i+1) % l.length));have hs:(List.range (i+1)).foldl (ZoP p l) (0,false)=ZoP p l ((List.range i).foldl (ZoP p l) (0,false)) i:=by
    rw [List.range_succ,ZOM];rfl
   rw [hs];generalize (List.range i).foldl (ZoP p l) (0,false)=n at *;unfold ZoP;simp only [hfH,ZNT,ZNR] at hy ⊢;refine ⟨_,by simp only [go_sem,qy,qq,qv,qk,reduceIte,c276L0b,S3,hg,hg2,hi',hw,hn,Jc,hy,Pt.enc,hb3];rfl,?_⟩
   simp only [go_sem,qy])
  (e:=.exit 0) (by simp only [go_sem,qy,qq,qv,reduceIte,hfH,c276L0b,ZG];rfl) (by simp)
 have L':Zg rE [0,1,5,6,7] c276L0b [(0,.yld 2),(1,.iptr false [.isl false ex 2 (l.map Pt.enc)]),(5,.isl false ex 2 (l.map Pt.enc)),(6,I l.length),(7,.int .i64 0)] [.row 1 [.int .i64 0],.row 1 [.bool false],.loop .ready .normal (ZoD (.isl false ex 2 (l.map Pt.enc)) p) [15,16] c284R0a c284R0b]=_:=L;rw [Z5 (f:=284) rfl rfl];have hrf:rf rE (.clo (.func 276) [] [.iptr false [.isl false ex 2 (l.map Pt.enc)]]) [15,16] c284R0a c284R0b (ZoD (.isl false ex 2 (l.map Pt.enc)) p) [.row 1 [.int .i64 0],.row 1 [.bool false]] =
  some (.normal,ZoD (.isl false ex 2 (l.map Pt.enc)) p,[.row 1 [I (ZoC l p).1],.row 1 [.bool (ZoC l p).2],.loop .exhausted .normal (ZoD (.isl false ex 2 (l.map Pt.enc)) p) [15,16] c284R0a c284R0b]):=by
  rw [Z1k (c:=c276) rfl];simp only [go_sem,qy,qq,qv,c276,c276L0,L',hb3];rfl
 simp only [ZoD] at hrf;simp only [go_sem,qy,qq,qv,c284,Z1l,Sr,hrf,hv]
def ZoY (l:List Pt) (p:Pt):Int:=
 bif (!Vh l||Jf p)||((ZoC l ⟨W (2 * p.X),W (2 * p.Y)⟩).1==0&&!(ZoC l ⟨W (2 * p.X),W (2 * p.Y)⟩).2) then -1
 else bif (ZoC l ⟨W (2 * p.X),W (2 * p.Y)⟩).1 != 0&&!(ZoC l ⟨W (2 * p.X),W (2 * p.Y)⟩).2 then 1 else 0
theorem Zqn (l:List Pt) (ex:Bool) (hl:l.length≤1000000) (p:Pt):pfn rE 209 [.isl false ex 2 (l.map Pt.enc),.agg [I p.X,I p.Y]]=some (I (ZoY l p)):=by
 have hV:=Dz l ex hl;have hO:=Z1h p;have hH:=Zqm l ex hl ⟨W (2 * p.X),W (2 * p.Y)⟩;have hO2:pfn rE 255 [.isl false ex 2 (l.map Pt.enc),.agg [I (W (2 * p.X)),I (W (2 * p.Y))]]=some (.bool ((ZoC l ⟨W (2 * p.X),W (2 * p.Y)⟩).1==0&&!(ZoC l ⟨W (2 * p.X),W (2 * p.Y)⟩).2)):=by
  rw [Z5 (f:=255) rfl rfl];cases c:(ZoC l ⟨W (2 * p.X),W (2 * p.Y)⟩).1==0<;>simp only [go_sem,qy,qq,qk,reduceIte,c255,hH,c,ZNX,ZO4]
 have hI:pfn rE 256 [.isl false ex 2 (l.map Pt.enc),.agg [I (W (2 * p.X)),I (W (2 * p.Y))]]=some (.bool ((ZoC l ⟨W (2 * p.X),W (2 * p.Y)⟩).1 != 0&&!(ZoC l ⟨W (2 * p.X),W (2 * p.Y)⟩).2)):=by
  rw [Z5 (f:=256) rfl rfl];cases c:(ZoC l ⟨W (2 * p.X),W (2 * p.Y)⟩).1 != 0<;>simp only [go_sem,qy,qq,qk,reduceIte,c256,hH,c,ZNX,ZO4]
 rw [Z5 (f:=209) rfl rfl];unfold ZoY;generalize ((ZoC l ⟨W (2 * p.X),W (2 * p.Y)⟩).1==0&&!(ZoC l ⟨W (2 * p.X),W (2 * p.Y)⟩).2)=b1 at *;generalize ((ZoC l ⟨W (2 * p.X),W (2 * p.Y)⟩).1 != 0&&!(ZoC l ⟨W (2 * p.X),W (2 * p.Y)⟩).2)=b2 at *;cases c1:Vh l with
 | false=>simp only [go_sem,qy,qq,qv,qk,reduceIte,c209,hV,c1,ZNS,ZO8,cond_true]
 | true=>
 cases c2:Jf p with
 | true=>simp only [go_sem,qy,qq,qv,qk,reduceIte,c209,hV,hO,c1,c2,ZNN,ZOE,ZO8,cond_true]
 | false=>
 cases b1 with
 | true=>simp only [go_sem,qy,qq,qv,qk,reduceIte,c209,hV,hO,hO2,c1,c2,ZNN,ZOE,cond_true]
 | false=>
 cases b2<;>simp only [go_sem,qy,qq,qv,qk,reduceIte,c209,hV,hO,hO2,hI,c1,c2,ZNN,ZOE,cond_true,cond_false]
end Go.AM
namespace Go.AM
open Go
theorem Z3j (a0 a1 a2 a3:AObj) (b:Bool):trimB 4 [a0,a1,a2,a3] b=[a0,a1,a2,a3]:=by cases b<;>rfl
theorem Z3k (a0 a1 a2 a3 a4:AObj) (b:Bool):trimB 5 [a0,a1,a2,a3,a4] b=[a0,a1,a2,a3,a4]:=by cases b<;>rfl
theorem Z3l (a0 a1 a2 a3 a4 a5:AObj) (b:Bool):trimB 6 [a0,a1,a2,a3,a4,a5] b=[a0,a1,a2,a3,a4,a5]:=by cases b<;>rfl
theorem Z3m (a0 a1 a2 a3 a4 a5 a6:AObj) (b:Bool):trimB 7 [a0,a1,a2,a3,a4,a5,a6] b=[a0,a1,a2,a3,a4,a5,a6]:=by cases b<;>rfl
theorem Z3n (a0 a1 a2 a3 a4 a5 a6 a7:AObj) (b:Bool):trimB 8 [a0,a1,a2,a3,a4,a5,a6,a7] b=[a0,a1,a2,a3,a4,a5,a6,a7]:=by cases b<;>rfl
attribute [go_sem] Z3j Z3k Z3l Z3m Z3n
structure Wk where
 s:Sta
 owner:Int
 e:Event
 kn:List Str
abbrev wkC (w:Wk):List AV:=[.isl false false 6 (w.s.Regions.map Region.enc),.isl false false 5 (w.s.Streets.map Street.enc),.isl false false 4 (w.s.Buildings.map Building.enc),.isl false false 16 (w.s.Doors.map Door.enc),
 .isl false false 6 (w.s.Units.map Unit'.enc),.isl false false 2 (w.s.Merged.map Pair.enc),.isl false false 2 (w.s.Rulings.map Pair.enc),I w.owner,
 I w.e.Kind,I w.e.Day,I w.e.A,I w.e.B,I w.e.Office,.str w.e.Id,.str w.e.Other,.str w.e.Text,.isl false w.e.Ids.ex 1 (w.e.Ids.l.map encS),.isl false w.e.Names.ex 3 (w.e.Names.l.map Nm.enc),
 I w.e.Number.N,.str w.e.Number.Letter,I w.e.Number.Num,I w.e.Number.Den,I w.e.Point.X,I w.e.Point.Y,.isl false w.e.Path.ex 2 (w.e.Path.l.map Pt.enc),.isl false w.e.Lst.ex 7 (w.e.Lst.l.map Ent.enc),
 .isl false false 1 (w.kn.map encS)]
abbrev wH (o0 o1:AObj) (w:Wk):Hp:=[o0,o1,.row 27 [.agg (wkC w)]]
structure WkS (w:Wk):Prop where
 s:StS w.s
 e:EvS w.e
 kn:w.kn.length≤100000
theorem Z3o (b i off g:Nat):Zy (.ptr b i off g)=false:=(rfl)
theorem Z3p (b g off len:Nat) (ex:Bool):Zy (.sl b g off len ex)=false:=(rfl)
theorem Z3q (b:Nat):Zy (.mp b)=false:=(rfl)
attribute [go_sem] Z3o Z3p Z3q
theorem Z3r (n:Nat):bounds none (some (I n)) (some (I n)) n=some (0,n,some n):=by
 simp [bounds,Vz,Wl,VA,numOf,VB,Ue]
def clC (sz:Nat):ACode:=
 .seq (.region [o 2 (.mv (.c (.isl false false sz [])))])<|
 .seq (.keep [2]<|.region [o 3 (.mv (.t 0)),o 4 (.mv (.t 0)),o 5 (.len 1 (.t 4)),o 6 (.mv (.t 0)),o 7 (.len 1 (.t 6)),o 8 (.slc sz (.t 3) none (some (.t 5)) (some (.t 7))),o 2 (.mv (.t 8))])<|
 .ret
theorem Jy {sz f:Nat} (hs:rE.sum f=none) (hf:rE.fn f=some ⟨[.tmp 2],clC sz⟩) (ex:Bool) (es:List AV):pfn rE f [.isl false ex sz es]=some (.isl false true sz es):=by
 have hb:=Z3r es.length;have ht:List.take (es.length - 0) es=es:=ZNW (by omega)
 have hm:(match some es.length with | none=>ex&&es.length==es.length | some m=>m==es.length)=true:=by simp
 rw [Z5 (f:=f) hs hf];simp only [go_sem,qy,qq,clC,hb,hm,ht]
theorem Z3s (es:List AV):pfn rE 78 [.isl false false 6 es]=some (.isl false true 6 es):=Jy rfl rfl false es
theorem Z3t (es:List AV):pfn rE 81 [.isl false false 5 es]=some (.isl false true 5 es):=Jy rfl rfl false es
theorem Z3u (es:List AV):pfn rE 88 [.isl false false 4 es]=some (.isl false true 4 es):=Jy rfl rfl false es
theorem Ft (es:List AV):pfn rE 162 [.isl false false 16 es]=some (.isl false true 16 es):=Jy rfl rfl false es
theorem Z3v (es:List AV):pfn rE 91 [.isl false false 6 es]=some (.isl false true 6 es):=Jy rfl rfl false es
theorem Fu (es:List AV):pfn rE 109 [.isl false false 2 es]=some (.isl false true 2 es):=Jy rfl rfl false es
theorem Vt {h:Hp} {aid sz bytes:Nat} {es ys:List AV} {bw bw2 ex:Bool} (hy:ys.isEmpty=false) (h0:0 < sz) (h1:0 < bytes) (h2:(es.length+ys.length) * bytes≤70368744177664) (hc:Z4 (es++ys)=true):
 Qt h aid true sz bytes (.isl bw true sz es) (.isl bw2 ex sz ys)=some (.isl false false sz (es++ys),[],none):=by
 simp only [Qt,Q2,Qq,beq_self_eq_true,ZO8,h0,h1,h2,and_self,if_true,hy,cond_false,Yp,Zs,ZNP,cond_true,hc]
def chC (sz f:Nat):ACode:=
 .seq (.region [o 6 (.mv (.c (.isl false false sz [])))])<|
 .seq (.keep [1,2,7]<|.region [o 8 (.rel (.t 0)),o 9 (.call false f [(.t 8)]),o 7 (.mv (.t 9))])<|
 .seq (.keep [7]<|.region [o 10 (.mv (.t 2)),o 11 (.mv (.t 7)),o 12 (.mv (.t 1)),o 13 (.iadr sz (.t 11) (.t 12)),o 14 (.callv false (.t 10) [(.t 13)])])<|
 .seq (.region [o 15 (.mv (.t 7)),o 6 (.mv (.t 15))])<|
 .ret
theorem Xj {α:Type} {f:α→AV} {sz:Nat} (h:∀ x,fits sz (f x)=true) (l:List α):(l.map f).all (fits sz)=true:=by
 rw [ZOD,ZO2];intro x _;exact h x
theorem Xk {sz f g fc:Nat} (hs:rE.sum fc=none) (hf:rE.fn fc=some ⟨[.tmp 6],chC sz f⟩) (hcl:rE.sum f=some (YL sz)) (es es' cap:List AV) (v:AV) (ex:Bool) (k:Nat) (hk:k < es.length) (hfit:es.all (fits sz)=true) (hle:es.length≤1000000)
 (h2:fnV rE g (.ptr 0 k 0 es.length::cap) [.row sz es]=some (v,[.row sz es'])) (hl:es'.length=es.length) (hc:Z4 es'=true):
 pfn rE fc [.isl false ex sz es,I k,.clo (.func g) [] cap]=some (.isl false false sz es'):=by
 have h1:fnV rE f [.isl false ex sz es] []=some (.sl 0 es.length 0 es.length false,[.row sz es]):=by
  have hble:Nat.ble es.length 1000000=true:=ZOg hle;have hne:es.isEmpty=false:=by cases es with | nil=>simp at hk | cons a r=>rfl
  rw [V8 hcl];simp only [YL,Q2,Qq,hfit,hble,hne,beq_self_eq_true,ZO8,ZO7,ZNS,cond_true,ZNR,ZNZ]
 have hlt:(0≤(k:Int)∧(k:Int) < (es.length:Int)):=by omega
 have hia:iaP 0 es.length 0 sz (k:Int) es.length (some (sz,es))=some (.ptr 0 k 0 es.length):=by
  rw [VT _ _ _ _ _ _ _ hlt];simp
 have ht:List.take es.length es'=es':=ZNW (by omega)
 rw [Z5 (f:=fc) hs hf];simp only [go_sem,qy,qq,qv,chC,h1,hia,RL,h2,beq_self_eq_true,hl,ht,hc]
def twB (w:Wk) (id:Str):Bool:=w.kn.any (fun x=>Z3 id x)
theorem Wj (w:Wk) (hw:WkS w) (id:Str):pfn rE 77 [.iptr true (wkC w),.str id]=some (.bool (twB w id)):=by
 have h:=Nz (f:=201) (enc:=encS) (p:=fun x=>Z3 id x) (v:=.str id) rfl rfl w.kn (by have:=hw.kn;omega) (fun x _=>rfl) rfl (fun x _=>rfl) false false
 have h2:pfn rE 155 [.isl false false 1 (w.kn.map encS),.str id]=some (.bool (w.kn.any (fun x=>Z3 id x))):=by
  rw [Z5 (f:=155) rfl rfl,←Vg];unfold WG;simp only [go_sem,qy,qq,reduceIte,c155,h]
 rw [Z5 (f:=77) rfl rfl];unfold twB;simp only [go_sem,qy,qq,c77,h2]
def NP (w:Wk):Street:=⟨w.e.Id,w.owner,w.e.Path,⟨false,[]⟩,-1⟩
def NQ (w:Wk):Building:=⟨w.e.Id,w.owner,w.e.Path,-1⟩
def Jz (w:Wk):Wk:={ w with s:={ w.s with Streets:=w.s.Streets++[NP w] } }
def JA (w:Wk):Wk:={ w with s:={ w.s with Buildings:=w.s.Buildings++[NQ w] } }
def Hh (w:Wk):Wk:={ w with s:={ w.s with Rulings:=w.s.Rulings++[⟨w.e.A,w.e.B⟩] } }
theorem Z3w (o0 o1:AObj) (w:Wk) (hw:WkS w):∃ t,fnV rE 38 [.ptr 2 0 0 1] (wH o0 o1 w)=some (I (bif twB w w.e.Id then 8 else 0),wH o0 o1 (bif twB w w.e.Id then w else Jz w)++t):=by
 have htw:=Wj w hw w.e.Id;have hcs:Z4 (w.s.Streets.map Street.enc)=true:=Zw (fun t=>rfl) _
 have ha:=fun (h:Hp) (aid:Nat)=>Vt (h:=h) (aid:=aid) (sz:=5) (bytes:=80) (es:=w.s.Streets.map Street.enc) (ys:=[.agg [.str w.e.Id,I w.owner,.isl false w.e.Path.ex 2 (w.e.Path.l.map Pt.enc),.isl false false 3 [],I (-1)]]) (bw:=false) (bw2:=false) (ex:=false) rfl (by omega) (by omega) (by have:=hw.s.streets;simp;omega) (by simp only [XA,hcs];rfl)
 rw [Q6 (f:=38) rfl rfl];cases c:twB w w.e.Id with
 | true=>
  rw [c] at htw;refine ⟨[],?_⟩;simp only [go_sem,qy,qq,qv,c38,htw,ZNP]
 | false=>
  rw [c] at htw;refine ⟨[],?_⟩;simp only [go_sem,qy,qq,qv,qk,c38,htw,Z3t,wrB,appW,ha,ZM,ZH,Jz,NP,ZNV,wH,wkC,Street.enc,NL.enc,ZNP]
theorem Z3x (o0 o1:AObj) (w:Wk) (hw:WkS w):∃ t,fnV rE 41 [.ptr 2 0 0 1] (wH o0 o1 w)=some (I (bif twB w w.e.Id then 8 else 0),wH o0 o1 (bif twB w w.e.Id then w else JA w)++t):=by
 have htw:=Wj w hw w.e.Id;have hcs:Z4 (w.s.Buildings.map Building.enc)=true:=Zw (fun t=>rfl) _
 have ha:=fun (h:Hp) (aid:Nat)=>Vt (h:=h) (aid:=aid) (sz:=4) (bytes:=56) (es:=w.s.Buildings.map Building.enc) (ys:=[.agg [.str w.e.Id,I w.owner,.isl false w.e.Path.ex 2 (w.e.Path.l.map Pt.enc),I (-1)]]) (bw:=false) (bw2:=false) (ex:=false) rfl (by omega) (by omega) (by have:=hw.s.buildings;simp;omega) (by simp only [XA,hcs];rfl)
 rw [Q6 (f:=41) rfl rfl];cases c:twB w w.e.Id with
 | true=>
  rw [c] at htw;refine ⟨[],?_⟩;simp only [go_sem,qy,qq,qv,c41,htw,ZNP]
 | false=>
  rw [c] at htw;refine ⟨[],?_⟩;simp only [go_sem,qy,qq,qv,qk,c41,htw,Z3u,wrB,appW,ha,ZM,ZH,JA,NQ,ZNV,wH,wkC,Building.enc,NL.enc,ZNP]
theorem Z3y (o0 o1:AObj) (w:Wk) (hw:WkS w):∃ t,fnV rE 50 [.ptr 2 0 0 1] (wH o0 o1 w)=some (I 0,wH o0 o1 (Hh w)++t):=by
 have hcs:Z4 (w.s.Rulings.map Pair.enc)=true:=Zw (fun t=>rfl) _
 have ha:=fun (h:Hp) (aid:Nat)=>Vt (h:=h) (aid:=aid) (sz:=2) (bytes:=16) (es:=w.s.Rulings.map Pair.enc) (ys:=[.agg [I w.e.A,I w.e.B]]) (bw:=false) (bw2:=false) (ex:=false) rfl (by omega) (by omega) (by have:=hw.s.rulings;simp;omega) (by simp only [XA,hcs];rfl)
 rw [Q6 (f:=50) rfl rfl];refine ⟨[],?_⟩;simp only [go_sem,qy,qq,qv,qk,c50,Fu,wrB,appW,ha,ZM,ZH,Hh,ZNV,wH,wkC,Pair.enc,ZNP]
def NR (w:Wk):Unit':=⟨w.e.Id,w.e.Other,w.e.Text,w.e.Day,-1,0⟩
def JB (w:Wk):Int:=bif twB w w.e.Id then 8 else bif decide (Zn w.s w.e.Other < 0) then 10 else bif QN w.s (Zn w.s w.e.Other) != -1 then 11 else 0
def JC (w:Wk):Wk:={ w with s:={ w.s with Units:=w.s.Units++[NR w] } }
theorem Z3z (o0 o1:AObj) (w:Wk) (hw:WkS w):∃ t,fnV rE 43 [.ptr 2 0 0 1] (wH o0 o1 w)=some (I (JB w),wH o0 o1 (bif JB w==0 then JC w else w)++t):=by
 have htw:=Wj w hw w.e.Id;have hf:=find_ok w.s hw.s w.e.Other;have hcs:Z4 (w.s.Units.map Unit'.enc)=true:=Zw (fun t=>rfl) _
 have ha:=fun (h:Hp) (aid:Nat)=>Vt (h:=h) (aid:=aid) (sz:=6) (bytes:=72) (es:=w.s.Units.map Unit'.enc) (ys:=[.agg [.str w.e.Id,.str w.e.Other,.str w.e.Text,I w.e.Day,I (-1),I 0]]) (bw:=false) (bw2:=false) (ex:=false) rfl (by omega) (by omega) (by have:=hw.s.units;simp;omega) (by simp only [XA,hcs];rfl)
 have z8:((8:Int)==0)=false:=rfl;have z10:((10:Int)==0)=false:=rfl;have z11:((11:Int)==0)=false:=rfl;have z0:((0:Int)==0)=true:=rfl;rw [Q6 (f:=43) rfl rfl];unfold JB;refine ⟨[],?_⟩;cases c:twB w w.e.Id with
 | true=>
  rw [c] at htw;simp only [go_sem,qy,qq,qv,qk,c43,htw,hf,z8,ZNP]
 | false=>
 rw [c] at htw;cases c1:decide (Zn w.s w.e.Other < 0) with
 | true=>simp only [go_sem,qy,qq,qv,qk,reduceIte,c43,htw,hf,c1,z10,ZNP]
 | false=>
 obtain ⟨j,y,hj,hy⟩:=QC c1;have hj':Zn w.s w.e.Other=(j:Int):=hj;have gy:=Z6 (f:=Door.enc) hy;have hdE:QN w.s (Zn w.s w.e.Other)=y.Ended:=by rw [hj'];simp [QN,hy]
 rw [hdE];rw [hj'] at hf c1;cases c2:y.Ended != -1 with
 | true=>simp only [go_sem,qy,qq,qv,qk,reduceIte,c43,htw,hf,c1,gy,Door.enc,NL.enc,c2,z11,ZNP]
 | false=>simp only [go_sem,qy,qq,qv,qk,reduceIte,c43,htw,hf,c1,gy,Door.enc,NL.enc,c2,z0,Z3v,wrB,appW,ha,ZM,ZH,JC,NR,ZNV,wH,wkC,Unit'.enc,ZNP]
def Xl (w:Wk) (d:Door):Door:={ d with Owner:=w.owner,From:=w.e.Day,Ended:=-1 }
def Qw (w:Wk) (d:Door):Wk:={ w with s:={ w.s with Doors:=w.s.Doors++[Xl w d] } }
theorem Fv (o0 o1:AObj) (w:Wk) (hw:WkS w) (d:Door) (t:Hp) (ht:t=[]∨(∃ x,t=[x])∨(∃ x y,t=[x,y])∨∃ x y z,t=[x,y,z]):
 ∃ q,fnV rE 90 [.ptr 2 0 0 1,Zo d] (wH o0 o1 w++t)=some (.tup [],wH o0 o1 (Qw w d)++t++[q])∧∀ n,Zj n q=true:=by
 have hcs:Z4 (w.s.Doors.map Door.enc)=true:=Zw (fun t=>rfl) _
 have ha:=fun (h:Hp) (aid:Nat)=>Vt (h:=h) (aid:=aid) (sz:=16) (bytes:=184) (es:=w.s.Doors.map Door.enc) (ys:=[Zo (Xl w d)]) (bw:=false) (bw2:=false) (ex:=false) rfl (by omega) (by omega) (by have:=hw.s.doors;simp;omega) (by simp only [XA,hcs];rfl)
 refine ⟨.row 16 [Zo (Xl w d)],?_,fun n=>rfl⟩
 unfold Zo Xl at ha ⊢;simp only at ha ⊢;rw [Q6 (f:=90) rfl rfl];rcases ht with rfl | ⟨x,rfl⟩ | ⟨x,y,rfl⟩ | ⟨x,y,z,rfl⟩<;>
  simp only [go_sem,qy,qq,qv,qk,c90,Ft,wrB,appW,ha,ZM,ZH,Qw,Xl,ZNV,wH,wkC,Door.enc,NL.enc,ZNP]
end Go.AM
namespace Go.AM
open Go
def UD (w:Wk):Door:=⟨w.e.Id,emp,emp,0,⟨0,emp,0,0⟩,⟨0,0⟩,0,0,⟨false,[]⟩,0,w.e.Office,w.e.Text⟩
def UE (w:Wk):Door:=⟨w.e.Id,w.e.Other,w.e.Text,0,w.e.Number,w.e.Point,0,0,⟨false,[]⟩,0,0,emp⟩
theorem Z3A (o0 o1:AObj) (h0:∀ n,Zj n o0=true) (h1:∀ n,Zj n o1=true) (w:Wk) (hw:WkS w):∃ t,fnV rE 51 [.ptr 2 0 0 1] (wH o0 o1 w)=some (I (bif twB w w.e.Id then 8 else 0),wH o0 o1 (bif twB w w.e.Id then w else Qw w (UD w))++t):=by
 have htw:=Wj w hw w.e.Id;obtain ⟨q,ho,hq⟩:=Fv o0 o1 w hw (UD w) [] (Or.inl rfl);rw [ZNP,ZNP] at ho;have ho':fnV rE 90 [.ptr 2 0 0 1,.agg [.str w.e.Id,.str emp,.str emp,I 0,I 0,.str emp,I 0,I 0,I 0,I 0,I 0,I 0,.isl false false 1 [],I 0,I w.e.Office,.str w.e.Text]] (wH o0 o1 w)=_:=ho;rw [Q6 (f:=51) rfl rfl];refine ⟨[],?_⟩;cases c:twB w w.e.Id with
 | true=>
  rw [c] at htw;simp only [go_sem,qy,qq,qv,c51,htw,ZNP]
 | false=>
  rw [c] at htw;simp only [go_sem,qy,qq,qv,qk,c51,htw,ho',wH,h0,h1,ZNP]
def JD (w:Wk):Int:=bif twB w w.e.Id then 8 else bif decide (Y1 w.s w.e.Other < 0)||decide (ZL w.s w.e.Text < 0) then 10 else bif WL w.s (Y1 w.s w.e.Other) != -1||QF w.s (ZL w.s w.e.Text) != -1 then 11 else 0
theorem Z3B (o0 o1:AObj) (h0:∀ n,Zj n o0=true) (h1:∀ n,Zj n o1=true) (w:Wk) (hw:WkS w):∃ t,fnV rE 42 [.ptr 2 0 0 1] (wH o0 o1 w)=some (I (JD w),wH o0 o1 (bif JD w==0 then Qw w (UE w) else w)++t):=by
 have htw:=Wj w hw w.e.Id;have hb:=Hb w.s hw.s w.e.Other;have ht:=K7 w.s hw.s w.e.Text;obtain ⟨q,ho,hq⟩:=Fv o0 o1 w hw (UE w) [] (Or.inl rfl);rw [ZNP,ZNP] at ho;have ho':fnV rE 90 [.ptr 2 0 0 1,.agg [.str w.e.Id,.str w.e.Other,.str w.e.Text,I 0,I w.e.Number.N,.str w.e.Number.Letter,I w.e.Number.Num,I w.e.Number.Den,I w.e.Point.X,I w.e.Point.Y,I 0,I 0,.isl false false 1 [],I 0,I 0,.str emp]] (wH o0 o1 w)=_:=ho;have z8:((8:Int)==0)=false:=rfl;have z10:((10:Int)==0)=false:=rfl;have z11:((11:Int)==0)=false:=rfl;have z0:((0:Int)==0)=true:=rfl;rw [Q6 (f:=42) rfl rfl];unfold JD;refine ⟨[],?_⟩;cases c:twB w w.e.Id with
 | true=>rw [c] at htw;simp only [go_sem,qy,qq,qv,qk,c42,htw,hb,ht,z8,ZNP]
 | false=>
 rw [c] at htw;cases c1:decide (Y1 w.s w.e.Other < 0) with
 | true=>simp only [go_sem,qy,qq,qv,qk,reduceIte,c42,htw,hb,ht,c1,z10,ZNP]
 | false=>
 cases c2:decide (ZL w.s w.e.Text < 0) with
 | true=>simp only [go_sem,qy,qq,qv,qk,reduceIte,c42,htw,hb,ht,c1,c2,z10,ZNP]
 | false=>
 obtain ⟨j,x,hj,hx⟩:=QC c1;obtain ⟨k,y,hk,hy⟩:=QC c2;have hj':Y1 w.s w.e.Other=(j:Int):=hj;have hk':ZL w.s w.e.Text=(k:Int):=hk;have hbE:WL w.s (Y1 w.s w.e.Other)=x.Ended:=by rw [hj'];simp [WL,hx]
 have hsE:QF w.s (ZL w.s w.e.Text)=y.Ended:=by rw [hk'];simp [QF,hy]
 have gx:=Z6 (f:=Building.enc) hx;have gy:=Z6 (f:=Street.enc) hy;rw [hbE,hsE];rw [hj'] at hb c1;rw [hk'] at ht c2;cases c5003:x.Ended != -1 with
 | true=>simp only [go_sem,qy,qq,qv,qk,reduceIte,c42,htw,hb,ht,c1,c2,gx,Building.enc,NL.enc,c5003,z11,ZNP]
 | false=>
 cases c5004:y.Ended != -1 with
 | true=>simp only [go_sem,qy,qq,qv,qk,reduceIte,c42,htw,hb,ht,c1,c2,gx,gy,Building.enc,Street.enc,NL.enc,c5003,c5004,z11,ZNP]
 | false=>simp only [go_sem,qy,qq,qv,qk,reduceIte,c42,htw,hb,ht,c1,c2,gx,gy,Building.enc,Street.enc,NL.enc,c5003,c5004,z0,ho',h0,h1,ZNP]
def ZK {α:Type} (l:List α) (k:Nat) (f:α→α):List α:=match l[k]? with | some x=>l.set k (f x) | none=>l
theorem YA {α:Type} {l:List α} {k:Nat} {x:α} (h:l[k]? = some x) (f:α→α):ZK l k f=l.set k (f x):=by simp [ZK,h]
def NS (p:NL Pt) (x:Region):Region:={ x with Ring:=p }
def NT (p:NL Nm) (x:Region):Region:={ x with Names:=p }
def XN (p:NL Nm) (x:Street):Street:={ x with Names:=p }
theorem Z3C (w:Wk) (l:List Region) (k:Nat) (x:Region) (hx:l[k]? = some x) (hle:l.length≤1000000):pfn rE 79 [.isl false false 6 (l.map Region.enc),I k,.clo (.func 80) [] [.iptr true [.iptr true (wkC w)]]]=some (.isl false false 6 ((ZK l k (NS w.e.Path)).map Region.enc)):=by
 have hk:=Z7 hx;have hg:=Z6 (f:=Region.enc) hx;rw [YA hx,ZO5];refine Xk (sz:=6) (f:=156) rfl rfl rfl _ _ _ (.tup []) false k (by simpa using hk) (Xj (fun _=>rfl) _) (by simpa using hle) ?_ (by simp) ?_
 ·rw [Q6 (f:=80) rfl rfl];simp only [go_sem,qy,qq,qk,c80,beq_self_eq_true,hg,Region.enc,NL.enc,NS]
 ·rw [←ZO5];exact Zw (fun t=>rfl) _
theorem Z3D (w:Wk) (l:List Region) (k:Nat) (x:Region) (hx:l[k]? = some x) (hle:l.length≤1000000):pfn rE 79 [.isl false false 6 (l.map Region.enc),I k,.clo (.func 83) [] [.iptr true [.iptr true (wkC w)]]]=some (.isl false false 6 ((ZK l k (NT w.e.Names)).map Region.enc)):=by
 have hk:=Z7 hx;have hg:=Z6 (f:=Region.enc) hx;rw [YA hx,ZO5];refine Xk (sz:=6) (f:=156) rfl rfl rfl _ _ _ (.tup []) false k (by simpa using hk) (Xj (fun _=>rfl) _) (by simpa using hle) ?_ (by simp) ?_
 ·rw [Q6 (f:=83) rfl rfl];simp only [go_sem,qy,qq,qk,c83,beq_self_eq_true,hg,Region.enc,NL.enc,NT]
 ·rw [←ZO5];exact Zw (fun t=>rfl) _
theorem Z3E (w:Wk) (l:List Street) (k:Nat) (x:Street) (hx:l[k]? = some x) (hle:l.length≤1000000):pfn rE 84 [.isl false false 5 (l.map Street.enc),I k,.clo (.func 85) [] [.iptr true [.iptr true (wkC w)]]]=some (.isl false false 5 ((ZK l k (XN w.e.Names)).map Street.enc)):=by
 have hk:=Z7 hx;have hg:=Z6 (f:=Street.enc) hx;rw [YA hx,ZO5];refine Xk (sz:=5) (f:=159) rfl rfl rfl _ _ _ (.tup []) false k (by simpa using hk) (Xj (fun _=>rfl) _) (by simpa using hle) ?_ (by simp) ?_
 ·rw [Q6 (f:=85) rfl rfl];simp only [go_sem,qy,qq,qk,c85,beq_self_eq_true,hg,Street.enc,NL.enc,XN]
 ·rw [←ZO5];exact Zw (fun t=>rfl) _
theorem Z3F (p:NL Nm) (l:List Street) (k:Nat) (x:Street) (hx:l[k]? = some x) (hle:l.length≤1000000):pfn rE 84 [.isl false false 5 (l.map Street.enc),I k,.clo (.func 86) [] [.iptr true [.isl false p.ex 3 (p.l.map Nm.enc)]]]=some (.isl false false 5 ((ZK l k (XN p)).map Street.enc)):=by
 have hk:=Z7 hx;have hg:=Z6 (f:=Street.enc) hx;rw [YA hx,ZO5];refine Xk (sz:=5) (f:=159) rfl rfl rfl _ _ _ (.tup []) false k (by simpa using hk) (Xj (fun _=>rfl) _) (by simpa using hle) ?_ (by simp) ?_
 ·rw [Q6 (f:=86) rfl rfl];simp only [go_sem,qy,qq,qk,c86,beq_self_eq_true,hg,Street.enc,NL.enc,XN]
 ·rw [←ZO5];exact Zw (fun t=>rfl) _
theorem Z3G (p:NL Nm) (l:List Street) (k:Nat) (x:Street) (hx:l[k]? = some x) (hle:l.length≤1000000):pfn rE 84 [.isl false false 5 (l.map Street.enc),I k,.clo (.func 87) [] [.iptr true [.isl false p.ex 3 (p.l.map Nm.enc)]]]=some (.isl false false 5 ((ZK l k (XN p)).map Street.enc)):=by
 have hk:=Z7 hx;have hg:=Z6 (f:=Street.enc) hx;rw [YA hx,ZO5];refine Xk (sz:=5) (f:=159) rfl rfl rfl _ _ _ (.tup []) false k (by simpa using hk) (Xj (fun _=>rfl) _) (by simpa using hle) ?_ (by simp) ?_
 ·rw [Q6 (f:=87) rfl rfl];simp only [go_sem,qy,qq,qk,c87,beq_self_eq_true,hg,Street.enc,NL.enc,XN]
 ·rw [←ZO5];exact Zw (fun t=>rfl) _
def Fw (w:Wk):Region:=⟨w.e.Id,w.e.A,w.owner,w.e.Path,⟨false,[]⟩,-1⟩
def WM (s:Sta) (k:Int):Int:=match s.Regions[k.toNat]? with | some b=>b.Ended | none=>0
def NU (s:Sta) (k:Int):Int:=match s.Regions[k.toNat]? with | some b=>b.Kind | none=>0
def Hi (w:Wk):Int:=bif decide (Qo w.s w.e.Id < 0) then (bif twB w w.e.Id then 8 else 0) else bif WM w.s (Qo w.s w.e.Id) != -1||NU w.s (Qo w.s w.e.Id) != w.e.A then 11 else 0
def Hj (w:Wk):Wk:={ w with s:={ w.s with Regions:=bif decide (Qo w.s w.e.Id < 0) then w.s.Regions++[Fw w] else ZK w.s.Regions (Qo w.s w.e.Id).toNat (NS w.e.Path) } }
theorem Z3H (o0 o1:AObj) (h0:∀ n,Zj n o0=true) (h1:∀ n,Zj n o1=true) (w:Wk) (hw:WkS w):∃ t,fnV rE 37 [.ptr 2 0 0 1] (wH o0 o1 w)=some (I (Hi w),wH o0 o1 (bif Hi w==0 then Hj w else w)++t):=by
 have htw:=Wj w hw w.e.Id;have hr:=NI w.s hw.s w.e.Id;have hcs:Z4 (w.s.Regions.map Region.enc)=true:=Zw (fun t=>rfl) _
 have ha:=fun (h:Hp) (aid:Nat)=>Vt (h:=h) (aid:=aid) (sz:=6) (bytes:=88) (es:=w.s.Regions.map Region.enc) (ys:=[.agg [.str w.e.Id,I w.e.A,I w.owner,.isl false w.e.Path.ex 2 (w.e.Path.l.map Pt.enc),.isl false false 3 [],I (-1)]]) (bw:=false) (bw2:=false) (ex:=false) rfl (by omega) (by omega) (by have:=hw.s.regions;simp;omega) (by simp only [XA,hcs];rfl)
 have z8:((8:Int)==0)=false:=rfl;have z11:((11:Int)==0)=false:=rfl;have z0:((0:Int)==0)=true:=rfl;rw [Q6 (f:=37) rfl rfl];unfold Hi Hj;refine ⟨[.row 1 [.ptr 2 0 0 1]],?_⟩;cases c1:decide (Qo w.s w.e.Id < 0) with
 | true=>
  cases c:twB w w.e.Id with
  | true=>rw [c] at htw;simp only [go_sem,qy,qq,qv,qk,reduceIte,c37,wH,htw,hr,c1,z8]
  | false=>
   rw [c] at htw;simp only [go_sem,qy,qq,qv,qk,reduceIte,c37,htw,hr,c1,z0,Z3s,wrB,appW,ha,ZM,ZH,Fw,ZNV,wH,wkC,Region.enc,NL.enc]
 | false=>
  obtain ⟨j,x,hj,hx⟩:=QC c1;have hj':Qo w.s w.e.Id=(j:Int):=hj;have gx:=Z6 (f:=Region.enc) hx;have hE:WM w.s (j:Int)=x.Ended:=by simp [WM,hx]
  have hK:NU w.s (j:Int)=x.Kind:=by simp [NU,hx]
  have hn:((j:Int)).toNat=j:=rfl;have hch:=Z3C w w.s.Regions j x hx (by have:=hw.s.regions;omega)
  rw [hj'] at hr c1 ⊢;rw [hE,hK,hn];cases c5003:x.Ended != -1 with
  | true=>simp only [go_sem,qy,qq,qv,qk,reduceIte,c37,wH,hr,c1,gx,Region.enc,NL.enc,c5003,z11]
  | false=>
  cases c5004:x.Kind != w.e.A with
  | true=>simp only [go_sem,qy,qq,qv,qk,reduceIte,c37,wH,hr,c1,gx,Region.enc,NL.enc,c5003,c5004,z11]
  | false=>simp only [go_sem,qy,qq,qv,qk,reduceIte,c37,wH,hr,c1,gx,Region.enc,NL.enc,c5003,c5004,z0,hch]
end Go.AM
namespace Go.AM
open Go
def Hk (w:Wk):Int:=
 bif decide (Qo w.s w.e.Id < 0)&&decide (ZL w.s w.e.Id < 0) then 10
 else bif (decide (Qo w.s w.e.Id ≥ 0)&&WM w.s (Qo w.s w.e.Id) != -1)||(decide (ZL w.s w.e.Id ≥ 0)&&QF w.s (ZL w.s w.e.Id) != -1) then 11 else 0
def Hl (w:Wk):Wk:=
 bif decide (Qo w.s w.e.Id ≥ 0) then { w with s:={ w.s with Regions:=ZK w.s.Regions (Qo w.s w.e.Id).toNat (NT w.e.Names) } }
 else { w with s:={ w.s with Streets:=ZK w.s.Streets (ZL w.s w.e.Id).toNat (XN w.e.Names) } }
theorem K9 {n:Int} (h:decide (n < 0)=false):decide (n ≥ 0)=true:=decide_eq_true (by have:=of_decide_eq_false h;omega)
theorem JE {n:Int} (h:decide (n < 0)=true):decide (n ≥ 0)=false:=decide_eq_false (by have:=of_decide_eq_true h;omega)
theorem Z3I (o0 o1:AObj) (h0:∀ n,Zj n o0=true) (h1:∀ n,Zj n o1=true) (w:Wk) (hw:WkS w):∃ t,fnV rE 39 [.ptr 2 0 0 1] (wH o0 o1 w)=some (I (Hk w),wH o0 o1 (bif Hk w==0 then Hl w else w)++t):=by
 have hr:=NI w.s hw.s w.e.Id;have ht:=K7 w.s hw.s w.e.Id;have z10:((10:Int)==0)=false:=rfl;have z11:((11:Int)==0)=false:=rfl;have z0:((0:Int)==0)=true:=rfl;rw [Q6 (f:=39) rfl rfl];unfold Hk Hl;refine ⟨[.row 1 [.ptr 2 0 0 1]],?_⟩;cases c1:decide (Qo w.s w.e.Id < 0) with
 | true=>
  have d1:=JE c1;cases c2:decide (ZL w.s w.e.Id < 0) with
  | true=>simp only [go_sem,qy,qq,qv,qk,reduceIte,c39,wH,hr,ht,c1,c2,z10]
  | false=>
   have d2:=K9 c2;obtain ⟨k,y,hk,hy⟩:=QC c2;have hk':ZL w.s w.e.Id=(k:Int):=hk;have gy:=Z6 (f:=Street.enc) hy;have hsE:QF w.s (k:Int)=y.Ended:=by simp [QF,hy]
   have hn:((k:Int)).toNat=k:=rfl;have hch:=Z3E w w.s.Streets k y hy (by have:=hw.s.streets;omega)
   rw [hk'] at ht c2 d2 ⊢;rw [hsE,hn];cases c5003:y.Ended != -1 with
   | true=>simp only [go_sem,qy,qq,qv,qk,reduceIte,c39,wH,hr,ht,c1,c2,d1,d2,gy,Street.enc,NL.enc,c5003,z11]
   | false=>simp only [go_sem,qy,qq,qv,qk,reduceIte,c39,wH,hr,ht,c1,c2,d1,d2,gy,Street.enc,NL.enc,c5003,z0,hch]
 | false=>
  have d1:=K9 c1;obtain ⟨j,x,hj,hx⟩:=QC c1;have hj':Qo w.s w.e.Id=(j:Int):=hj;have gx:=Z6 (f:=Region.enc) hx;have hrE:WM w.s (j:Int)=x.Ended:=by simp [WM,hx]
  have hnj:((j:Int)).toNat=j:=rfl;have hch:=Z3D w w.s.Regions j x hx (by have:=hw.s.regions;omega)
  rw [hj'] at hr c1 d1 ⊢;rw [hrE,hnj];cases c5003:x.Ended != -1 with
  | true=>simp only [go_sem,qy,qq,qv,qk,reduceIte,c39,wH,hr,ht,c1,d1,gx,Region.enc,NL.enc,c5003,z11]
  | false=>
  cases c2:decide (ZL w.s w.e.Id < 0) with
  | true=>
   have d2:=JE c2;simp only [go_sem,qy,qq,qv,qk,reduceIte,c39,wH,hr,ht,c1,d1,d2,gx,Region.enc,NL.enc,c5003,z0,hch]
  | false=>
   have d2:=K9 c2;obtain ⟨k,y,hk,hy⟩:=QC c2;have hk':ZL w.s w.e.Id=(k:Int):=hk;have gy:=Z6 (f:=Street.enc) hy;have hsE:QF w.s (k:Int)=y.Ended:=by simp [QF,hy]
   rw [hk'] at ht c2 d2 ⊢;rw [hsE];cases c5004:y.Ended != -1 with
   | true=>simp only [go_sem,qy,qq,qv,qk,reduceIte,c39,wH,hr,ht,c1,d1,d2,gx,gy,Region.enc,Street.enc,NL.enc,c5003,c5004,z11]
   | false=>simp only [go_sem,qy,qq,qv,qk,reduceIte,c39,wH,hr,ht,c1,d1,d2,gx,gy,Region.enc,Street.enc,NL.enc,c5003,c5004,z0,hch]
def Hm (w:Wk):Int:=
 bif decide (ZL w.s w.e.Id < 0)||decide (ZL w.s w.e.Other < 0) then 10 else bif QF w.s (ZL w.s w.e.Id) != -1||QF w.s (ZL w.s w.e.Other) != -1 then 11 else 0
def JF (s:Sta) (k:Nat):NL Nm:=match s.Streets[k]? with | some x=>x.Names | none=>⟨false,[]⟩
def exW (w:Wk):Wk:={ w with s:={ w.s with Streets:=ZK (ZK w.s.Streets (ZL w.s w.e.Id).toNat (XN (JF w.s (ZL w.s w.e.Other).toNat))) (ZL w.s w.e.Other).toNat (XN (JF w.s (ZL w.s w.e.Id).toNat)) } }
theorem Xm {α:Type} (l:List α) (k:Nat) (f:α→α):(ZK l k f).length=l.length:=by
 unfold ZK;cases l[k]?<;>simp
theorem Z3J (o0 o1:AObj) (h0:∀ n,Zj n o0=true) (h1:∀ n,Zj n o1=true) (w:Wk) (hw:WkS w):∃ t,fnV rE 40 [.ptr 2 0 0 1] (wH o0 o1 w)=some (I (Hm w),wH o0 o1 (bif Hm w==0 then exW w else w)++t):=by
 have hr:=K7 w.s hw.s w.e.Id;have ht:=K7 w.s hw.s w.e.Other;have z10:((10:Int)==0)=false:=rfl;have z11:((11:Int)==0)=false:=rfl;have z0:((0:Int)==0)=true:=rfl;rw [Q6 (f:=40) rfl rfl];unfold Hm exW;cases c1:decide (ZL w.s w.e.Id < 0) with
 | true=>refine ⟨[],?_⟩;simp only [go_sem,qy,qq,qv,qk,reduceIte,c40,wH,hr,ht,c1,z10,ZNP]
 | false=>
 cases c2:decide (ZL w.s w.e.Other < 0) with
 | true=>refine ⟨[],?_⟩;simp only [go_sem,qy,qq,qv,qk,reduceIte,c40,wH,hr,ht,c1,c2,z10,ZNP]
 | false=>
 obtain ⟨j,x,hj,hx⟩:=QC c1;obtain ⟨k,y,hk,hy⟩:=QC c2;have hj':ZL w.s w.e.Id=(j:Int):=hj;have hk':ZL w.s w.e.Other=(k:Int):=hk;have gx:=Z6 (f:=Street.enc) hx;have gy:=Z6 (f:=Street.enc) hy;have hxE:QF w.s (j:Int)=x.Ended:=by simp [QF,hx]
 have hyE:QF w.s (k:Int)=y.Ended:=by simp [QF,hy]
 have hnj:((j:Int)).toNat=j:=rfl;have hnk:((k:Int)).toNat=k:=rfl;have hxN:JF w.s j=x.Names:=by simp [JF,hx]
 have hyN:JF w.s k=y.Names:=by simp [JF,hy]
 rw [hj'] at hr c1 ⊢;rw [hk'] at ht c2 ⊢;rw [hxE,hyE,hnj,hnk,hxN,hyN];cases c5003:x.Ended != -1 with
 | true=>refine ⟨[],?_⟩;simp only [go_sem,qy,qq,qv,qk,reduceIte,c40,wH,hr,ht,c1,c2,gx,Street.enc,NL.enc,c5003,z11,ZNP]
 | false=>
 cases c5004:y.Ended != -1 with
 | true=>refine ⟨[],?_⟩;simp only [go_sem,qy,qq,qv,qk,reduceIte,c40,wH,hr,ht,c1,c2,gx,gy,Street.enc,NL.enc,c5003,c5004,z11,ZNP]
 | false=>
  have hch:=Z3F y.Names w.s.Streets j x hx (by have:=hw.s.streets;omega)
  obtain ⟨y',hy'⟩:∃ y',(ZK w.s.Streets j (XN y.Names))[k]? = some y':=⟨_,ZNQ (by rw [Xm];exact Z7 hy)⟩
  have hch2:=Z3G x.Names (ZK w.s.Streets j (XN y.Names)) k y' hy' (by have:=hw.s.streets;rw [Xm];omega)
  refine ⟨[.row 1 [.isl false x.Names.ex 3 (x.Names.l.map Nm.enc)],.row 1 [.isl false y.Names.ex 3 (y.Names.l.map Nm.enc)]],?_⟩;simp only [go_sem,qy,qq,qv,qk,reduceIte,c40,wH,hr,ht,c1,c2,gx,gy,Street.enc,NL.enc,c5003,c5004,z0,hch,hch2,h0,h1]
def WN (s:Sta) (b:Int):Nat→Int→Bool
 | 0,_=>false
 | k+1,at'=>bif decide (at' ≥ 0) then (bif at'==b then true else WN s b k (XJ s at')) else false
def Hn (w:Wk):Int:=bif decide (XJ w.s w.e.B ≥ 0) then 11 else bif WN w.s w.e.B (w.s.Merged.length+2) w.e.A then 12 else 0
def Ho (w:Wk):Wk:={ w with s:={ w.s with Merged:=w.s.Merged++[⟨w.e.A,w.e.B⟩] } }
theorem Z3K (o0 o1:AObj) (w:Wk) (hw:WkS w):∀ k at',chN w.s k at'=true→
 ∃ fr',Zg rE [0,3] c49L0b [(0,.ptr 2 0 0 1),(3,I at')] (wH o0 o1 w)=some (if WN w.s w.e.B (k+1) at'=true then .ret else .exit 0,fr',wH o0 o1 w)∧
  (WN w.s w.e.B (k+1) at'=true→get fr' 2=.int .i64 12)∧(WN w.s w.e.B (k+1) at'=false→get fr' 0=.ptr 2 0 0 1∧get fr' 2=.bot):=by
 intro k;induction k with
 | zero=>
  intro at' hc;have h1:decide (at' ≥ 0)=false:=by simpa [chN] using hc
  have h2:WN w.s w.e.B (0+1) at'=false:=by rw [WN,h1];rfl
  rw [h2];refine ⟨_,Q7 rfl (by simp only [go_sem,qy,qq,reduceIte,c49L0b,h1];rfl) (by simp),fun h=>(by cases h),fun _=>⟨?_,?_⟩⟩<;>simp only [go_sem,qy]
 | succ k ih=>
  intro at' hc;rw [WN];cases h1:decide (at' ≥ 0) with
  | false=>
   rw [cond_false];refine ⟨_,Q7 rfl (by simp only [go_sem,qy,qq,reduceIte,c49L0b,h1];rfl) (by simp),fun h=>(by cases h),fun _=>⟨?_,?_⟩⟩<;>simp only [go_sem,qy]
  | true=>
   rw [cond_true];cases h2:at'==w.e.B with
   | true=>
    rw [cond_true];refine ⟨_,Q7 rfl (by simp only [go_sem,qy,qq,reduceIte,c49L0b,h1,h2];rfl) (by simp),fun _=>?_,fun h=>(by cases h)⟩
    simp only [go_sem,qy]
   | false=>
    rw [cond_false];have hc':chN w.s k (XJ w.s at')=true:=by
     rw [chN,h1,cond_true] at hc;exact hc
    have ht:=NJ w.s hw.s at';obtain ⟨fr',h3,h4⟩:=ih (XJ w.s at') hc';refine ⟨fr',?_,h4⟩;rw [←h3];exact (Yt rfl (by simp only [go_sem,qy,qq,qv,qk,reduceIte,c49L0b,h1,h2,ht];rfl)).trans (by simp only [go_sem,qy])
theorem Z3L (s:Sta) (hp:WK s=true) (a:Int):chN s (s.Merged.length+1) a=true:=by
 simp only [WK,ZNM] at hp;obtain ⟨_,_,h3⟩:=hp;rw [ZO2] at h3;cases hf:s.Merged.find? (fun p=>p.b==a) with
 | some p=>
  have h1:=List.find?_some hf;have h2:=h3 p (List.mem_of_find?_eq_some hf);have:p.b=a:=by simpa using h1
  rw [←this];exact h2
 | none=>
  have ht:XJ s a=-1:=by unfold XJ;rw [hf]
  rw [chN];cases decide (a ≥ 0) with
  | false=>rfl
  | true=>
   rw [cond_true,ht];cases s.Merged.length<;>rfl
theorem Z3M (o0 o1:AObj) (w:Wk) (hw:WkS w) (hp:WK w.s=true):∃ t,fnV rE 49 [.ptr 2 0 0 1] (wH o0 o1 w)=some (I (Hn w),wH o0 o1 (bif Hn w==0 then Ho w else w)++t):=by
 have ht:=NJ w.s hw.s w.e.B;have hcs:Z4 (w.s.Merged.map Pair.enc)=true:=Zw (fun t=>rfl) _
 have ha:=fun (h:Hp) (aid:Nat)=>Vt (h:=h) (aid:=aid) (sz:=2) (bytes:=16) (es:=w.s.Merged.map Pair.enc) (ys:=[.agg [I w.e.A,I w.e.B]]) (bw:=false) (bw2:=false) (ex:=false) rfl (by omega) (by omega) (by have:=hw.s.merged;simp;omega) (by simp only [XA,hcs];rfl)
 have z12:((12:Int)==0)=false:=rfl;have z11:((11:Int)==0)=false:=rfl;have z0:((0:Int)==0)=true:=rfl;obtain ⟨fr',h1,h2,h3⟩:=Z3K o0 o1 w hw (w.s.Merged.length+1) w.e.A (Z3L w.s hp w.e.A);rw [Q6 (f:=49) rfl rfl];unfold Hn;refine ⟨[],?_⟩;cases c1:decide (XJ w.s w.e.B ≥ 0) with
 | true=>simp only [go_sem,qy,qq,qv,qk,reduceIte,c49,ht,c1,z11,ZNP]
 | false=>
 have e:w.s.Merged.length+2=w.s.Merged.length+1+1:=rfl;rw [e];cases c2:WN w.s w.e.B (w.s.Merged.length+1+1) w.e.A with
 | true=>
  rw [c2,if_pos rfl] at h1;simp only [go_sem,qy,qq,qv,qk,reduceIte,c49,c49L0,ht,c1,h1,h2 c2,z12,ZNP]
 | false=>
  rw [c2] at h1;obtain ⟨q0,q2⟩:=h3 c2;simp only [go_sem,qy,qq,qv,qk,reduceIte,c49,c49L0,ht,c1,h1,q0,q2,z0,ZNY,Fu,wrB,appW,ha,ZM,ZH,Ho,ZNV,wH,wkC,Pair.enc,ZNP]
end Go.AM
namespace Go.AM
open Go
def UF (e:Event) (a:NL Str) (d:Door):Door:={ d with Ended:=e.Day,Why:=e.Kind,After:=a }
def UG (e:Event) (a:NL Str) (u:Unit'):Unit':=
 match a.l with
 | x::_=>{ u with Door:=x }
 | []=>{ u with Ended:=e.Day,Why:=e.Kind }
theorem Z3N (w:Wk) (a:NL Str) (l:List Door) (k:Nat) (x:Door) (hx:l[k]? = some x) (hle:l.length≤1000000):pfn rE 95 [.isl false false 16 (l.map Door.enc),I k,.clo (.func 165) [] [.iptr true [.iptr true (wkC w)],.iptr false [.isl false a.ex 1 (a.l.map encS)]]]=some (.isl false false 16 ((ZK l k (UF w.e a)).map Door.enc)):=by
 have hk:=Z7 hx;have hg:=Z6 (f:=Door.enc) hx;have hs:∀ v,((l.map Door.enc).set k v)[k]? = some v:=fun v=>by simp [hk]
 rw [YA hx,ZO5];refine Xk (sz:=16) (f:=164) rfl rfl rfl _ _ _ (.tup []) false k (by simpa using hk) (Xj (fun _=>rfl) _) (by simpa using hle) ?_ (by simp) ?_
 ·rw [Q6 (f:=165) rfl rfl];simp only [go_sem,qy,qq,qk,c165,beq_self_eq_true,hg,hs,List.set_set,ZOY,ZNL,Door.enc,NL.enc,UF]
 ·rw [←ZO5];exact Zw (fun t=>rfl) _
theorem Z3O (w:Wk) (a:NL Str) (l:List Unit') (k:Nat) (x:Unit') (hx:l[k]? = some x) (hle:l.length≤1000000):pfn rE 106 [.isl false false 6 (l.map Unit'.enc),I k,.clo (.func 166) [] [.iptr false [.isl false a.ex 1 (a.l.map encS)],.iptr true [.iptr true (wkC w)]]]=some (.isl false false 6 ((ZK l k (UG w.e a)).map Unit'.enc)):=by
 have hk:=Z7 hx;have hg:=Z6 (f:=Unit'.enc) hx;have hs:∀ v,((l.map Unit'.enc).set k v)[k]? = some v:=fun v=>by simp [hk]
 rw [YA hx,ZO5];refine Xk (sz:=6) (f:=172) rfl rfl rfl _ _ _ (.tup []) false k (by simpa using hk) (Xj (fun _=>rfl) _) (by simpa using hle) ?_ (by simp) ?_
 ·rw [Q6 (f:=166) rfl rfl];unfold UG;cases ha:a.l with
  | nil=>
   have d:decide (((0:Nat):Int) > 0)=false:=rfl;simp only [go_sem,qy,qq,qv,qk,reduceIte,c166,beq_self_eq_true,hg,hs,List.set_set,ZOY,ZNL,Unit'.enc,ZO6,ZNZ,d]
  | cons y r=>
   have d:decide (((r.length+1:Nat):Int) > 0)=true:=decide_eq_true (by omega)
   have hix:ixG (.str y::r.map encS) 0=some (.str y):=rfl;simp only [go_sem,qy,qq,qv,qk,reduceIte,c166,beq_self_eq_true,hg,ZNL,Unit'.enc,ZO3,ZO1,ZNL,d,hix,encS]
 ·rw [←ZO5];exact Zw (fun t=>rfl) _
def Z3P (id:Str) (u:Unit'):Bool:=Z3 u.Door id&&!(u.Ended != -1)
def XO (e:Event) (id:Str) (a:NL Str) (u:Unit'):Unit':=bif Z3P id u then UG e a u else u
def UH (e:Event) (id:Str) (a:NL Str) (l:List Unit'):List Unit':=l.map (XO e id a)
def Ym (w:Wk) (l:List Door):Wk:={ w with s:={ w.s with Doors:=l } }
def Qx (w:Wk) (l:List Unit'):Wk:={ w with s:={ w.s with Units:=l } }
def Qf (w:Wk) (k:Nat) (a:NL Str):Wk:=
 match w.s.Doors[k]? with
 | some x=>Qx (Ym w (ZK w.s.Doors k (UF w.e a))) (UH w.e x.Id a w.s.Units)
 | none=>w
def Y3 {α:Type} (f:α→α) (l:List α) (i:Nat):List α:=(l.take i).map f++l.drop i
theorem Z3Q {α:Type} (f:α→α) (l:List α):Y3 f l 0=l:=by simp [Y3]
theorem Z3R {α:Type} (f:α→α) (l:List α):Y3 f l l.length=l.map f:=by simp [Y3]
theorem Z3S {α:Type} (f:α→α) (l:List α) (i:Nat):(Y3 f l i).length=l.length:=by
 unfold Y3;simp;omega
theorem UI {α:Type} (f:α→α) {l:List α} {i:Nat} {x:α} (h:l[i]? = some x):(Y3 f l i)[i]? = some x:=by
 have hi:=Z7 h;unfold Y3;rw [ZOF (by simp;omega)]
 have:i - (List.map f (List.take i l)).length=0:=by simp;omega
 rw [this,List.getElem?_drop];simpa using h
theorem Fx {α:Type} (f:α→α) {l:List α} {i:Nat} {x:α} (h:l[i]? = some x):Y3 f l (i+1)=(Y3 f l i).set i (f x):=by
 have hi:=Z7 h;have hx:l[i]=x:=by rw [ZNQ hi] at h;exact Option.some.inj h
 unfold Y3;rw [ZOG hi,hx,ZNV,ZOj,ZOZ _ _ (by simp;omega)]
 have:i - (List.map f (List.take i l)).length=0:=by simp;omega
 rw [this,ZOA hi];rfl
theorem Fy {α:Type} (f:α→α) {l:List α} {i:Nat} {x:α} (h:l[i]? = some x) (hf:f x=x):Y3 f l (i+1)=Y3 f l i:=by
 rw [Fx f h,hf];have h2:=UI f h;have hi:=Z7 h2;rw [ZNQ hi] at h2;have:=Option.some.inj h2;rw [←this,List.set_getElem_self]
theorem Z3T (o0 o1:AObj) (h0:∀ n,Zj n o0=true) (h1:∀ n,Zj n o1=true) (id:Str) (a:NL Str) (w:Wk) (hu:w.s.Units.length≤1000) (t:Hp)
 (ht:(∃ x,t=[x]∧∀ n,3≤n→Zj n x=true)∨∃ x y,t=[x,y]∧(∀ n,3≤n→Zj n x=true)∧∀ n,3≤n→Zj n y=true):
 ∃ fr',Zg rE [3,5,6,34,35,36] c97L0b [(3,.ptr (3+t.length) 0 0 1),(5,.iptr false [.isl false a.ex 1 (a.l.map encS)]),(6,.str id),(34,.isl false false 6 (w.s.Units.map Unit'.enc)),(35,I w.s.Units.length),(36,.int .i64 0)] (wH o0 o1 w++t++[.row 1 [.ptr 2 0 0 1]]) =
  some (.exit 0,fr',wH o0 o1 (Qx w (UH w.e id a w.s.Units))++t++[.row 1 [.ptr 2 0 0 1]]):=by
 have L:=Y8 (E:=rE) (live:=[3,5,6,34,35,36]) (b:=c97L0b) w.s.Units.length
  (fun i=>[(3,.ptr (3+t.length) 0 0 1),(5,.iptr false [.isl false a.ex 1 (a.l.map encS)]),(6,.str id),(34,.isl false false 6 (w.s.Units.map Unit'.enc)),(35,I w.s.Units.length),(36,I i)])
  (fun i=>wH o0 o1 (Qx w (Y3 (XO w.e id a) w.s.Units i))++t++[.row 1 [.ptr 2 0 0 1]]) (fun i=>rfl)
  (fun i hi=>by
   obtain ⟨x,hx⟩:∃ x,w.s.Units[i]? = some x:=⟨_,ZNQ hi⟩;have hg:=Z6 (f:=Unit'.enc) hx;have hi':=Zh hi;have hw:=Zx (n:=i) (by omega)
   have hch:=Z3O (Qx w (Y3 (XO w.e id a) w.s.Units i)) a (Y3 (XO w.e id a) w.s.Units i) i x (UI _ hx) (by rw [Z3S];omega)
   have hf:XO w.e id a x=bif Z3 x.Door id&&!(x.Ended != -1) then UG w.e a x else x:=rfl;have hm:Z3 x.Door id=true→(x.Ended != -1)=false→ZK (Y3 (XO w.e id a) w.s.Units i) i (UG w.e a)=Y3 (XO w.e id a) w.s.Units (i+1):=fun c1 c2=>by
    rw [Fx _ hx,YA (UI _ hx),hf,c1,c2];rfl
   rw [YA (UI _ hx)] at hch;refine ⟨[(3,.ptr (3+t.length) 0 0 1),(5,.iptr false [.isl false a.ex 1 (a.l.map encS)]),(6,.str id),(34,.isl false false 6 (w.s.Units.map Unit'.enc)),(35,I w.s.Units.length),(36,I (i+1:Nat))],?_,rfl⟩;cases c1:Z3 x.Door id with
   | false=>
    have hs:=Fy (XO w.e id a) hx (by rw [hf,c1];rfl)
    rw [hs];rcases ht with ⟨x0,rfl,b0⟩ | ⟨x0,y0,rfl,b0,b1⟩
    ·simp only [go_sem,qy,qq,qv,qk,reduceIte,c97L0b,wH,Qx,hg,hi',hw,Unit'.enc,c1,h0,h1,b0]
    ·simp only [go_sem,qy,qq,qv,qk,reduceIte,c97L0b,wH,Qx,hg,hi',hw,Unit'.enc,c1,h0,h1,b0,b1]
   | true=>
   cases c2:x.Ended != -1 with
   | true=>
    have hs:=Fy (XO w.e id a) hx (by rw [hf,c1,c2];rfl)
    rw [hs];rcases ht with ⟨x0,rfl,b0⟩ | ⟨x0,y0,rfl,b0,b1⟩
    ·simp only [go_sem,qy,qq,qv,qk,reduceIte,c97L0b,wH,Qx,hg,hi',hw,Unit'.enc,c1,c2,h0,h1,b0]
    ·simp only [go_sem,qy,qq,qv,qk,reduceIte,c97L0b,wH,Qx,hg,hi',hw,Unit'.enc,c1,c2,h0,h1,b0,b1]
   | false=>
    have hm':=hm c1 c2;rw [YA (UI _ hx)] at hm';have e0:(Qx w (Y3 (XO w.e id a) w.s.Units i)).e=w.e:=rfl;rw [e0,hm'] at hch;simp only [Qx] at hch;rcases ht with ⟨x0,rfl,b0⟩ | ⟨x0,y0,rfl,b0,b1⟩
    ·simp only [go_sem,qy,qq,qv,qk,reduceIte,c97L0b,wH,Qx,hg,hi',hw,Unit'.enc,c1,c2,h0,h1,b0,hch]
    ·simp only [go_sem,qy,qq,qv,qk,reduceIte,c97L0b,wH,Qx,hg,hi',hw,Unit'.enc,c1,c2,h0,h1,b0,b1,hch])
  (e:=.exit 0) (fr:=[(3,.ptr (3+t.length) 0 0 1),(5,.iptr false [.isl false a.ex 1 (a.l.map encS)]),(6,.str id),(34,.isl false false 6 (w.s.Units.map Unit'.enc)),(35,I w.s.Units.length),(36,I w.s.Units.length)]) (h:=wH o0 o1 (Qx w (Y3 (XO w.e id a) w.s.Units w.s.Units.length))++t++[.row 1 [.ptr 2 0 0 1]]) (by
   rcases ht with ⟨x0,rfl,b0⟩ | ⟨x0,y0,rfl,b0,b1⟩
   ·simp only [go_sem,qy,qq,reduceIte,c97L0b,ZG,wH,Qx,h0,h1]
   ·simp only [go_sem,qy,qq,reduceIte,c97L0b,ZG,wH,Qx,h0,h1]) (by simp)
 simp only [Z3Q,Z3R] at L;exact ⟨_,L⟩
theorem Hq (o0 o1:AObj) (h0:∀ n,Zj n o0=true) (h1:∀ n,Zj n o1=true) (a:NL Str) (w:Wk) (hu:w.s.Units.length≤1000) (hdl:w.s.Doors.length≤1000000) (k:Nat) (x:Door) (hx:w.s.Doors[k]? = some x) (t:Hp)
 (ht:(∃ x,t=[x]∧∀ n,3≤n→Zj n x=true)∨∃ x y,t=[x,y]∧(∀ n,3≤n→Zj n x=true)∧∀ n,3≤n→Zj n y=true):
 fnV rE 97 [.ptr 2 0 0 1,I k,.isl false a.ex 1 (a.l.map encS)] (wH o0 o1 w++t)=some (.tup [],wH o0 o1 (Qf w k a)++t++[.row 1 [.ptr 2 0 0 1]]):=by
 have hg:=Z6 (f:=Door.enc) hx;have hch:=Z3N w a w.s.Doors k x hx hdl;obtain ⟨fr',hL⟩:=Z3T o0 o1 h0 h1 x.Id a (Ym w (ZK w.s.Doors k (UF w.e a))) hu t ht;have e:Qf w k a=Qx (Ym w (ZK w.s.Doors k (UF w.e a))) (UH w.e x.Id a w.s.Units):=by unfold Qf;rw [hx]
 rw [e,Q6 (f:=97) rfl rfl];rcases ht with ⟨x0,rfl,b0⟩ | ⟨x0,y0,rfl,b0,b1⟩
 ·simp only [wH,Ym,Qx,ZNT,ZNR,ZO1,ZNZ,Nat.reduceAdd] at hL ⊢;simp only [go_sem,qy,qq,qv,qk,c97,c97L0,hg,hch,Door.enc,NL.enc,h0,h1,b0,hL]
 ·simp only [wH,Ym,Qx,ZNT,ZNR,ZO1,ZNZ,Nat.reduceAdd] at hL ⊢;simp only [go_sem,qy,qq,qv,qk,c97,c97L0,hg,hch,Door.enc,NL.enc,h0,h1,b0,b1,hL]
end Go.AM
namespace Go.AM
open Go
theorem Fz (o0 o1:AObj) (w:Wk) (hd:w.s.Doors.length≤100000) (d:Door) (t:Hp) (ht:t=[]∨(∃ x,t=[x])∨(∃ x y,t=[x,y])∨∃ x y z,t=[x,y,z]):
 ∃ q,fnV rE 90 [.ptr 2 0 0 1,Zo d] (wH o0 o1 w++t)=some (.tup [],wH o0 o1 (Qw w d)++t++[q])∧∀ n,Zj n q=true:=by
 have hcs:Z4 (w.s.Doors.map Door.enc)=true:=Zw (fun t=>rfl) _
 have ha:=fun (h:Hp) (aid:Nat)=>Vt (h:=h) (aid:=aid) (sz:=16) (bytes:=184) (es:=w.s.Doors.map Door.enc) (ys:=[Zo (Xl w d)]) (bw:=false) (bw2:=false) (ex:=false) rfl (by omega) (by omega) (by simp;omega) (by simp only [XA,hcs];rfl)
 refine ⟨.row 16 [Zo (Xl w d)],?_,fun n=>rfl⟩
 unfold Zo Xl at ha ⊢;simp only at ha ⊢;rw [Q6 (f:=90) rfl rfl];rcases ht with rfl | ⟨x,rfl⟩ | ⟨x,y,rfl⟩ | ⟨x,y,z,rfl⟩<;>
  simp only [go_sem,qy,qq,qv,qk,c90,Ft,wrB,appW,ha,ZM,ZH,Qw,Xl,ZNV,wH,wkC,Door.enc,NL.enc,ZNP]
def Hr (d:Door) (x:Ent):Door:=⟨x.Id,d.Building,d.Street,0,x.Number,x.Point,0,0,⟨false,[]⟩,0,0,emp⟩
def Y5 (w:Wk) (d:Door) (l:List Ent):Wk:={ w with s:={ w.s with Doors:=w.s.Doors++l.map (fun x=>Xl w (Hr d x)) } }
theorem Z3U (w:Wk) (d:Door) {l:List Ent} {i:Nat} {x:Ent} (h:l[i]? = some x):Y5 w d (l.take (i+1))=Qw (Y5 w d (l.take i)) (Hr d x):=by
 unfold Y5 Qw;rw [YW _ h,ZOj];rfl
def WO (w:Wk) (l:List Ent):Bool:=Zu (fun _ x=>!twB w x.Id) 0 l
theorem Z3V (o0 o1:AObj) (h0:∀ n,Zj n o0=true) (h1:∀ n,Zj n o1=true) (w:Wk) (hw:WkS w):
 ∃ fr' h',Zg rE [0,3,14,15,16] c45L0b [(0,.ptr 2 0 0 1),(3,.sl 3 0 0 0 false),(14,.isl false w.e.Lst.ex 7 (w.e.Lst.l.map Ent.enc)),(15,I w.e.Lst.l.length),(16,.int .i64 0)] (wH o0 o1 w++[.row 1 []]) =
  some (if WO w w.e.Lst.l=true then .exit 0 else .ret,fr',h')∧
  (WO w w.e.Lst.l=true→(get fr' 0=.ptr 2 0 0 1∧get fr' 2=.bot∧get fr' 3=.sl 3 w.e.Lst.l.length 0 w.e.Lst.l.length false)∧h'=wH o0 o1 w++[.row 1 ((w.e.Lst.l.map (·.Id)).map encS)])∧
  (WO w w.e.Lst.l=false→get fr' 2=.int .i64 8∧∃ K,h'=wH o0 o1 w++[.row 1 K]):=by
 have hbS:∀ n (K:List Str),Zd n (K.map encS)=true:=fun n K=>ZN _ (Zw (fun t=>rfl) K)
 have hl:=hw.e.lst;have L:=Jk (E:=rE) (live:=[0,3,14,15,16]) (b:=c45L0b) w.e.Lst.l (fun _ x=>!twB w x.Id)
  (fun i=>[(0,.ptr 2 0 0 1),(3,.sl 3 i 0 i false),(14,.isl false w.e.Lst.ex 7 (w.e.Lst.l.map Ent.enc)),(15,I w.e.Lst.l.length),(16,I i)])
  (fun i=>wH o0 o1 w++[.row 1 (((w.e.Lst.l.take i).map (·.Id)).map encS)]) 0
  (fun fr' h'=>(get fr' 0=.ptr 2 0 0 1∧get fr' 2=.bot∧get fr' 3=.sl 3 w.e.Lst.l.length 0 w.e.Lst.l.length false)∧h'=wH o0 o1 w++[.row 1 ((w.e.Lst.l.map (·.Id)).map encS)])
  (fun fr' h'=>get fr' 2=.int .i64 8∧∃ K,h'=wH o0 o1 w++[.row 1 K])
  (fun i=>rfl)
  (fun i x hx hp=>by
   have hi:=Z7 hx;have hg:=Z6 (f:=Ent.enc) hx;have hi':=Zh hi;have hwr:=Zx (n:=i) (by omega)
   have ht:=YW (fun x:Ent=>x.Id) hx
   have hn:((w.e.Lst.l.take i).map (·.Id)).length=i:=by rw [ZNL,take_len hx]
   have e1:((w.e.Lst.l.take (i+1)).map (·.Id)).map encS=((w.e.Lst.l.take i).map (·.Id)).map encS++[.str x.Id]:=by
    rw [ht,ZNV];rfl
   have htw:=Wj w hw x.Id;have hp':twB w x.Id=false:=by simpa using hp
   rw [hp'] at htw;rw [e1];generalize (w.e.Lst.l.take i).map (·.Id)=KS at hn ⊢;have ha:=fun p0 p1 p2 q=>XC (h:=[p0,p1,p2,.row 1 (KS.map encS),q]) (fz:=false) (b:=3) (g:=i) (sz:=1) (es:=KS.map encS) (bw:=false) (ex:=false) (ys:=[.str x.Id]) (bytes:=16) (by simp [rowAt,hn]) rfl (by simp [Qq];rfl) (by omega) (by omega) (by simp;omega)
   refine ⟨[(0,.ptr 2 0 0 1),(2,.bot),(3,.sl 3 (i+1) 0 (i+1) false),(14,.isl false w.e.Lst.ex 7 (w.e.Lst.l.map Ent.enc)),(15,I w.e.Lst.l.length),(16,I (i+1:Nat))],?_,rfl⟩;simp only [go_sem,qy,qq,qv,qk,reduceIte,c45L0b,wH,hg,hi',hwr,Ent.enc,htw,ha,beq_self_eq_true,hbS,h0,h1])
  (fun i x hx hp=>by
   have hi:=Z7 hx;have hg:=Z6 (f:=Ent.enc) hx;have hi':=Zh hi;have htw:=Wj w hw x.Id;have hp':twB w x.Id=true:=by simpa using hp
   rw [hp'] at htw;refine ⟨_,_,by simp only [go_sem,qy,qq,qv,qk,reduceIte,c45L0b,wH,hg,hi',Ent.enc,htw,beq_self_eq_true,hbS,h0,h1];rfl,?_,_,rfl⟩
   simp only [go_sem,qy])
  ⟨_,_,by simp only [go_sem,qy,qq,qv,reduceIte,c45L0b,wH,ZG,ZO0,hbS,h0,h1];rfl,⟨by simp only [go_sem,qy],by simp only [go_sem,qy],by simp only [go_sem,qy]⟩,rfl⟩
 simp only [List.take_zero,ZO6] at L;exact L
theorem Z3W (o0 o1:AObj) (h0:∀ n,Zj n o0=true) (h1:∀ n,Zj n o1=true) (w:Wk) (hd:w.s.Doors.length≤1000) (hl:w.e.Lst.l.length≤100) (k:Int) (n:Nat) (K:List Str) (d:Door):
 ∃ fr',Zg rE [0,3,6,7,78,79,80] c45L1b [(0,.ptr 2 0 0 1),(3,.sl 3 n 0 n false),(6,I k),(7,.ptr 4 0 0 1),(78,.isl false w.e.Lst.ex 7 (w.e.Lst.l.map Ent.enc)),(79,I w.e.Lst.l.length),(80,.int .i64 0)] (wH o0 o1 w++[.row 1 (K.map encS),.row 16 [Zo d]]) =
  some (.exit 3,fr',wH o0 o1 (Y5 w d w.e.Lst.l)++[.row 1 (K.map encS),.row 16 [Zo d]])∧get fr' 0=.ptr 2 0 0 1∧get fr' 3=.sl 3 n 0 n false∧get fr' 6=I k:=by
 have hbS:∀ n (K:List Str),Zd n (K.map encS)=true:=fun n K=>ZN _ (Zw (fun t=>rfl) K)
 have L:=Y8 (E:=rE) (live:=[0,3,6,7,78,79,80]) (b:=c45L1b) w.e.Lst.l.length
  (fun i=>[(0,.ptr 2 0 0 1),(3,.sl 3 n 0 n false),(6,I k),(7,.ptr 4 0 0 1),(78,.isl false w.e.Lst.ex 7 (w.e.Lst.l.map Ent.enc)),(79,I w.e.Lst.l.length),(80,I i)])
  (fun i=>wH o0 o1 (Y5 w d (w.e.Lst.l.take i))++[.row 1 (K.map encS),.row 16 [Zo d]]) (fun i=>rfl)
  (fun i hi=>by
   obtain ⟨x,hx⟩:∃ x,w.e.Lst.l[i]? = some x:=⟨_,ZNQ hi⟩;have hg:=Z6 (f:=Ent.enc) hx;have hi':=Zh hi;have hwr:=Zx (n:=i) (by omega)
   obtain ⟨q,ho,hq⟩:=Fz o0 o1 (Y5 w d (w.e.Lst.l.take i)) (by simp [Y5];omega) (Hr d x) [.row 1 (K.map encS),.row 16 [Zo d],.row 7 [x.enc]] (Or.inr (Or.inr (Or.inr ⟨_,_,_,rfl⟩)))
   rw [Z3U w d hx];refine ⟨[(0,.ptr 2 0 0 1),(3,.sl 3 n 0 n false),(6,I k),(7,.ptr 4 0 0 1),(78,.isl false w.e.Lst.ex 7 (w.e.Lst.l.map Ent.enc)),(79,I w.e.Lst.l.length),(80,I (i+1:Nat))],?_,rfl⟩;generalize Y5 w d (w.e.Lst.l.take i)=W at ho ⊢;unfold Hr Zo at ho ⊢;simp only [wH,ZNT,ZNR,ZO6,Ent.enc] at ho ⊢;simp only [go_sem,qy,qq,qv,qk,reduceIte,c45L1b,hg,hi',hwr,Ent.enc,ho,beq_self_eq_true,hbS,h0,h1])
  (e:=.exit 3) (fr:=[(0,.ptr 2 0 0 1),(3,.sl 3 n 0 n false),(6,I k),(7,.ptr 4 0 0 1),(78,.isl false w.e.Lst.ex 7 (w.e.Lst.l.map Ent.enc)),(79,I w.e.Lst.l.length),(80,I w.e.Lst.l.length)]) (h:=wH o0 o1 (Y5 w d (w.e.Lst.l.take w.e.Lst.l.length))++[.row 1 (K.map encS),.row 16 [Zo d]])
  (by simp only [go_sem,qy,qq,qv,reduceIte,c45L1b,ZG,wH,hbS,h0,h1,Zo]) (by simp)
 have e0:Y5 w d (w.e.Lst.l.take 0)=w:=by simp [Y5]
 rw [e0,ZO0] at L;exact ⟨_,L,by simp only [go_sem,qy],by simp only [go_sem,qy],by simp only [go_sem,qy]⟩
def Vu (s:Sta) (k:Int):Str:=match s.Doors[k.toNat]? with | some d=>d.Veil | none=>emp
def Ka (w:Wk):Int:=
 bif !WO w w.e.Lst.l then 8 else bif decide (Zn w.s w.e.Id < 0) then 10
 else bif QN w.s (Zn w.s w.e.Id) != -1||!Z3 (Vu w.s (Zn w.s w.e.Id)) emp then 11 else 0
def Kb (w:Wk):Wk:=
 match w.s.Doors[(Zn w.s w.e.Id).toNat]? with
 | some d=>Qf (Y5 w d w.e.Lst.l) (Zn w.s w.e.Id).toNat ⟨false,w.e.Lst.l.map (·.Id)⟩
 | none=>w
theorem Z3X (o0 o1:AObj) (h0:∀ n,Zj n o0=true) (h1:∀ n,Zj n o1=true) (w:Wk) (hw:WkS w):∃ t,fnV rE 45 [.ptr 2 0 0 1] (wH o0 o1 w)=some (I (Ka w),wH o0 o1 (bif Ka w==0 then Kb w else w)++t):=by
 have hbS:∀ n (K:List Str),Zd n (K.map encS)=true:=fun n K=>ZN _ (Zw (fun t=>rfl) K)
 have hcS:∀ K:List Str,Z4 (K.map encS)=true:=fun K=>Zw (fun t=>rfl) K
 have hf:=find_ok w.s hw.s w.e.Id;have z8:((8:Int)==0)=false:=rfl;have z10:((10:Int)==0)=false:=rfl;have z11:((11:Int)==0)=false:=rfl;have z0:((0:Int)==0)=true:=rfl;obtain ⟨f0,g0,l0,a0,b0⟩:=Z3V o0 o1 h0 h1 w hw;rw [Q6 (f:=45) rfl rfl];unfold Ka;cases c0:WO w w.e.Lst.l with
 | false=>
  rw [c0] at l0;obtain ⟨q2,K,rfl⟩:=b0 c0;simp only [wH,ZNT,ZNR,ZNY,if_false] at l0;refine ⟨[.row 1 K],?_⟩;simp only [go_sem,qy,qq,qv,c45,c45L0,wH,l0,q2,z8]
 | true=>
 rw [c0,if_pos rfl] at l0;obtain ⟨⟨q0,q2,q3⟩,rfl⟩:=a0 c0;simp only [wH,ZNT,ZNR] at l0;cases c1:decide (Zn w.s w.e.Id < 0) with
 | true=>
  refine ⟨[.row 1 ((w.e.Lst.l.map (·.Id)).map encS)],?_⟩;simp only [go_sem,qy,qq,qv,qk,reduceIte,c45,c45L0,wH,l0,q0,q2,q3,hbS,h0,h1,hf,c1,z10]
 | false=>
 obtain ⟨j,y,hj,hy⟩:=QC c1;have hj':Zn w.s w.e.Id=(j:Int):=hj;have gy:=Z6 (f:=Door.enc) hy;have hdE:QN w.s (j:Int)=y.Ended:=by simp [QN,hy]
 have hdV:Vu w.s (j:Int)=y.Veil:=by simp [Vu,hy]
 have hn:((j:Int)).toNat=j:=rfl;rw [hj'] at hf c1 ⊢;rw [hdE,hdV];cases c2:y.Ended != -1 with
 | true=>
  refine ⟨[.row 1 ((w.e.Lst.l.map (·.Id)).map encS)],?_⟩;simp only [go_sem,qy,qq,qv,qk,reduceIte,c45,c45L0,wH,l0,q0,q2,q3,hbS,h0,h1,hf,c1,gy,Door.enc,NL.enc,c2,z11]
 | false=>
 cases c5003:Z3 y.Veil emp with
 | false=>
  refine ⟨[.row 1 ((w.e.Lst.l.map (·.Id)).map encS)],?_⟩;simp only [go_sem,qy,qq,qv,qk,reduceIte,c45,c45L0,wH,l0,q0,q2,q3,hbS,h0,h1,hf,c1,gy,Door.enc,NL.enc,c2,c5003,z11]
 | true=>
  obtain ⟨f1,l1,p0,p3,p6⟩:=Z3W o0 o1 h0 h1 w hw.s.doors hw.e.lst j w.e.Lst.l.length (w.e.Lst.l.map (·.Id)) y;have he:=Hq o0 o1 h0 h1 ⟨false,w.e.Lst.l.map (·.Id)⟩ (Y5 w y w.e.Lst.l) hw.s.units (by have:=hw.s.doors;have:=hw.e.lst;simp [Y5];omega) j y (by
   have:=Z7 hy;unfold Y5;rw [ZP7 this,hy]) [.gone,.row 16 [Zo y]] (Or.inr ⟨_,_,rfl,fun n _=>rfl,fun n _=>rfl⟩)
  have hs:Kb w=Qf (Y5 w y w.e.Lst.l) j ⟨false,w.e.Lst.l.map (·.Id)⟩:=by unfold Kb;rw [hj',hn,hy]
  rw [hs];generalize Qf (Y5 w y w.e.Lst.l) j ⟨false,w.e.Lst.l.map (·.Id)⟩=W2 at he ⊢;unfold Zo at l1 he;simp only [wH,ZNT,ZNR] at l1 he;refine ⟨[.gone,.row 16 [Zo y]],?_⟩;have hz:List.take w.e.Lst.l.length ((w.e.Lst.l.map (·.Id)).map encS)=(w.e.Lst.l.map (·.Id)).map encS:=ZNW (by simp)
  simp only [go_sem,qy,qq,qv,qk,reduceIte,c45,c45L0,c45L1,wH,l0,q0,q2,q3,hbS,hcS,h0,h1,hf,c1,gy,Door.enc,NL.enc,c2,c5003,z0,l1,p0,p3,p6,he,beq_self_eq_true,hz,Zo]
end Go.AM
namespace Go.AM
open Go
theorem FA (w:Wk) (k:Nat) (a:NL Str):(Qf w k a).e=w.e:=by unfold Qf;split<;>rfl
theorem FB (w:Wk) (k:Nat) (a:NL Str):(Qf w k a).s.Doors.length=w.s.Doors.length:=by
 unfold Qf;split
 ·simp [Qx,Ym,Xm]
 ·rfl
theorem FC (w:Wk) (k:Nat) (a:NL Str):(Qf w k a).s.Units.length=w.s.Units.length:=by
 unfold Qf;split
 ·simp [Qx,Ym,UH]
 ·rfl
def Yg (w:Wk) (l:List Int) (a:NL Str):Wk:=l.foldl (fun w k=>Qf w k.toNat a) w
theorem UJ (w:Wk) (k:Int) (l:List Int) (a:NL Str):Yg w (k::l) a=Yg (Qf w k.toNat a) l a:=rfl
theorem Z3Y (w:Wk) {l:List Int} {i:Nat} {x:Int} (h:l[i]? = some x) (a:NL Str):Yg w (l.take (i+1)) a=Qf (Yg w (l.take i) a) x.toNat a:=by
 have hi:=Z7 h;have hx:l[i]=x:=by rw [ZNQ hi] at h;exact Option.some.inj h
 unfold Yg;rw [ZOG hi,hx,ZOM];rfl
theorem Z3Z (l:List Int) (a:NL Str):∀ w:Wk,(Yg w l a).e=w.e:=by
 induction l with
 | nil=>intro w;rfl
 | cons x r ih=>intro w;rw [UJ,ih,FA]
theorem Z40 (l:List Int) (a:NL Str):∀ w:Wk,(Yg w l a).s.Doors.length=w.s.Doors.length:=by
 induction l with
 | nil=>intro w;rfl
 | cons x r ih=>intro w;rw [UJ,ih,FB]
theorem Z41 (l:List Int) (a:NL Str):∀ w:Wk,(Yg w l a).s.Units.length=w.s.Units.length:=by
 induction l with
 | nil=>intro w;rfl
 | cons x r ih=>intro w;rw [UJ,ih,FC]
theorem Z42 (l:List Int) (ex:Bool) (v:Int) (hl:l.length≤1000000):pfn rE 98 [.isl true ex 1 (l.map I),I v]=some (.bool (l.any (fun x=>v==x))):=by
 have h:=Nz (f:=167) (enc:=I) (p:=fun x=>v==x) (v:=I v) rfl rfl l (by omega) (fun x _=>rfl) rfl (fun x _=>rfl) true ex
 rw [Z5 (f:=98) rfl rfl,←Vg];unfold WG;simp only [go_sem,qy,qq,qk,reduceIte,c98,h]
def Zf (w:Wk):List Int:=w.e.Ids.l.map (fun id=>Zn w.s id)
def XP (s:Sta) (k:Int):Str:=match s.Doors[k.toNat]? with | some d=>d.Street | none=>emp
def JG (s:Sta) (st:Str) (k:Int):Bool:=!((QN s k != -1||!Z3 (Vu s k) emp)||!Z3 (XP s k) st)
def Kc (w:Wk):Int:=
 bif twB w w.e.Id then 8 else bif (Zf w).any (fun x=>-1==x) then 10
 else bif Zu (fun _ k=>JG w.s (XP w.s ((Zf w).headD 0)) k) 0 (Zf w) then 0 else 11
def WP (w:Wk) (d:Door):Door:=⟨w.e.Id,d.Building,d.Street,0,w.e.Number,w.e.Point,0,0,⟨false,[]⟩,0,0,emp⟩
def Kd (w:Wk):Wk:=
 match w.s.Doors[((Zf w).headD 0).toNat]? with
 | some d=>Yg (Qw w (WP w d)) (Zf w) ⟨false,[w.e.Id]⟩
 | none=>w
theorem Z43 (o0 o1:AObj) (h0:∀ n,Zj n o0=true) (h1:∀ n,Zj n o1=true) (w:Wk) (hw:WkS w):
 ∃ fr',Zg rE [0,3,23,24,25] c46L0b [(0,.ptr 2 0 0 1),(3,.sl 3 0 0 0 false),(23,.isl false w.e.Ids.ex 1 (w.e.Ids.l.map encS)),(24,I w.e.Ids.l.length),(25,.int .i64 0)] (wH o0 o1 w++[.row 1 []]) =
  some (.exit 0,fr',wH o0 o1 w++[.row 1 ((Zf w).map I)])∧get fr' 0=.ptr 2 0 0 1∧get fr' 3=.sl 3 (Zf w).length 0 (Zf w).length false:=by
 have hbS:∀ n (K:List Int),Zd n (K.map I)=true:=fun n K=>ZN _ (Zw (fun t=>rfl) K)
 have hl:=hw.e.ids;have L:=Y8 (E:=rE) (live:=[0,3,23,24,25]) (b:=c46L0b) w.e.Ids.l.length
  (fun i=>[(0,.ptr 2 0 0 1),(3,.sl 3 i 0 i false),(23,.isl false w.e.Ids.ex 1 (w.e.Ids.l.map encS)),(24,I w.e.Ids.l.length),(25,I i)])
  (fun i=>wH o0 o1 w++[.row 1 (((w.e.Ids.l.take i).map (fun id=>Zn w.s id)).map I)]) (fun i=>rfl)
  (fun i hi=>by
   obtain ⟨x,hx⟩:∃ x,w.e.Ids.l[i]? = some x:=⟨_,ZNQ hi⟩;have hg:=Z6 (f:=encS) hx;have hi':=Zh hi;have hwr:=Zx (n:=i) (by omega)
   have ht:=YW (fun id=>Zn w.s id) hx
   have hn:((w.e.Ids.l.take i).map (fun id=>Zn w.s id)).length=i:=by rw [ZNL,take_len hx]
   have e1:((w.e.Ids.l.take (i+1)).map (fun id=>Zn w.s id)).map I=((w.e.Ids.l.take i).map (fun id=>Zn w.s id)).map I++[I (Zn w.s x)]:=by
    rw [ht,ZNV];rfl
   have hf:=find_ok w.s hw.s x;rw [e1];generalize (w.e.Ids.l.take i).map (fun id=>Zn w.s id)=KS at hn ⊢
   have ha:=fun p0 p1 p2=>XC (h:=[p0,p1,p2,.row 1 (KS.map I)]) (fz:=false) (b:=3) (g:=i) (sz:=1) (es:=KS.map I) (bw:=false) (ex:=false) (ys:=[I (Zn w.s x)]) (bytes:=8) (by simp [rowAt,hn]) rfl (by simp [Qq];rfl) (by omega) (by omega) (by simp;omega)
   refine ⟨[(0,.ptr 2 0 0 1),(3,.sl 3 (i+1) 0 (i+1) false),(23,.isl false w.e.Ids.ex 1 (w.e.Ids.l.map encS)),(24,I w.e.Ids.l.length),(25,I (i+1:Nat))],?_,rfl⟩;simp only [go_sem,qy,qq,qv,qk,reduceIte,c46L0b,wH,hg,hi',hwr,encS,hf,ha,beq_self_eq_true,hbS,h0,h1])
  (e:=.exit 0) (fr:=[(0,.ptr 2 0 0 1),(3,.sl 3 w.e.Ids.l.length 0 w.e.Ids.l.length false),(23,.isl false w.e.Ids.ex 1 (w.e.Ids.l.map encS)),(24,I w.e.Ids.l.length),(25,I w.e.Ids.l.length)]) (h:=wH o0 o1 w++[.row 1 (((w.e.Ids.l.take w.e.Ids.l.length).map (fun id=>Zn w.s id)).map I)])
  (by simp only [go_sem,qy,qq,qv,reduceIte,c46L0b,ZG,wH,hbS,h0,h1]) (by simp)
 rw [ZO0] at L;have e2:(Zf w).length=w.e.Ids.l.length:=by simp [Zf]
 rw [e2];exact ⟨_,L,by simp only [go_sem,qy],by simp only [go_sem,qy]⟩
theorem Z44 {l:List Int} (h:l.any (fun x=>-1==x)=false) {i:Nat} {k:Int} (hk:l[i]? = some k):k≠-1:=by
 intro e;rw [ZON] at h;exact h k (ZOa hk) (by rw [e];rfl)
theorem UK (w:Wk) (h:(Zf w).any (fun x=>-1==x)=false) {i:Nat} {k:Int} (hk:(Zf w)[i]? = some k):∃ (j:Nat) (d:Door),k=(j:Int)∧w.s.Doors[j]? = some d:=by
 have hne:=Z44 h hk;unfold Zf at hk;rw [ZOX] at hk;cases hx:w.e.Ids.l[i]? with
 | none=>rw [hx] at hk;cases hk
 | some id=>
  rw [hx] at hk;have hk':Zn w.s id=k:=Option.some.inj hk;have hc:decide (Zn w.s id < 0)=false:=by
   rcases UA (fun x:Door=>Z3 x.Id id) w.s.Doors 0 with ⟨h1,_⟩ | ⟨j,x,h1,h2,_⟩
   ·exact absurd (show k=-1 by rw [←hk'];exact h1) hne
   ·have:Zn w.s id=0+(j:Int):=h1;rw [this];exact decide_eq_false (by omega)
  obtain ⟨j,d,h1,h2⟩:=QC hc;exact ⟨j,d,by rw [←hk'];exact h1,h2⟩
theorem Z45 (o0 o1:AObj) (h0:∀ n,Zj n o0=true) (h1:∀ n,Zj n o1=true) (w:Wk) (hw:WkS w) (hn:(Zf w).any (fun x=>-1==x)=false) (d:Door):
 ∃ fr' h',Zg rE [0,3,6,51,52,53] c46L1b [(0,.ptr 2 0 0 1),(3,.sl 3 (Zf w).length 0 (Zf w).length false),(6,.ptr 4 0 0 1),(51,.sl 3 (Zf w).length 0 (Zf w).length false),(52,I (Zf w).length),(53,.int .i64 0)] (wH o0 o1 w++[.row 1 ((Zf w).map I),.row 16 [Zo d]]) =
  some (if Zu (fun _ k=>JG w.s d.Street k) 0 (Zf w)=true then .exit 2 else .ret,fr',h')∧
  (Zu (fun _ k=>JG w.s d.Street k) 0 (Zf w)=true→(get fr' 0=.ptr 2 0 0 1∧get fr' 2=.bot∧get fr' 3=.sl 3 (Zf w).length 0 (Zf w).length false∧get fr' 6=.ptr 4 0 0 1)∧h'=wH o0 o1 w++[.row 1 ((Zf w).map I),.row 16 [Zo d]])∧
  (Zu (fun _ k=>JG w.s d.Street k) 0 (Zf w)=false→(get fr' 0=.ptr 2 0 0 1∧get fr' 2=.int .i64 11∧get fr' 3=.sl 3 (Zf w).length 0 (Zf w).length false∧get fr' 6=.ptr 4 0 0 1)∧h'=wH o0 o1 w++[.row 1 ((Zf w).map I),.row 16 [Zo d]]):=by
 have hbS:∀ n (K:List Int),Zd n (K.map I)=true:=fun n K=>ZN _ (Zw (fun t=>rfl) K)
 have hlen:(Zf w).length≤100:=by simp [Zf];exact hw.e.ids
 have L:=Jk (E:=rE) (live:=[0,3,6,51,52,53]) (b:=c46L1b) (Zf w) (fun _ k=>JG w.s d.Street k)
  (fun i=>[(0,.ptr 2 0 0 1),(3,.sl 3 (Zf w).length 0 (Zf w).length false),(6,.ptr 4 0 0 1),(51,.sl 3 (Zf w).length 0 (Zf w).length false),(52,I (Zf w).length),(53,I i)])
  (fun i=>wH o0 o1 w++[.row 1 ((Zf w).map I),.row 16 [Zo d]]) 2
  (fun fr' h'=>(get fr' 0=.ptr 2 0 0 1∧get fr' 2=.bot∧get fr' 3=.sl 3 (Zf w).length 0 (Zf w).length false∧get fr' 6=.ptr 4 0 0 1)∧h'=wH o0 o1 w++[.row 1 ((Zf w).map I),.row 16 [Zo d]])
  (fun fr' h'=>(get fr' 0=.ptr 2 0 0 1∧get fr' 2=.int .i64 11∧get fr' 3=.sl 3 (Zf w).length 0 (Zf w).length false∧get fr' 6=.ptr 4 0 0 1)∧h'=wH o0 o1 w++[.row 1 ((Zf w).map I),.row 16 [Zo d]])
  (fun i=>rfl)
  (fun i k hk hp=>by
   have hi:=Z7 hk;obtain ⟨j,y,rfl,hy⟩:=UK w hn hk;have hg:=Z6 (f:=I) hk;have gy:=Z6 (f:=Door.enc) hy;have hi':=Zh hi;have hwr:=Zx (n:=i) (by omega)
   have hdE:QN w.s (j:Int)=y.Ended:=by simp [QN,hy]
   have hdV:Vu w.s (j:Int)=y.Veil:=by simp [Vu,hy]
   have hdS:XP w.s (j:Int)=y.Street:=by simp [XP,hy]
   have hp':(!((y.Ended != -1||!Z3 y.Veil emp)||!Z3 y.Street d.Street))=true:=by rw [←hdE,←hdV,←hdS];exact hp
   have c1:(y.Ended != -1)=false:=by revert hp';cases (y.Ended != -1)<;>simp
   have c2:Z3 y.Veil emp=true:=by revert hp';rw [c1];cases Z3 y.Veil emp<;>simp
   have c5003:Z3 y.Street d.Street=true:=by revert hp';rw [c1,c2];cases Z3 y.Street d.Street<;>simp
   have hlt:((i:Int) < ((Zf w).length:Int)):=by omega
   refine ⟨[(0,.ptr 2 0 0 1),(2,.bot),(3,.sl 3 (Zf w).length 0 (Zf w).length false),(6,.ptr 4 0 0 1),(51,.sl 3 (Zf w).length 0 (Zf w).length false),(52,I (Zf w).length),(53,I (i+1:Nat))],?_,rfl⟩;have hia:iaP 3 (Zf w).length 0 1 (i:Int) (Zf w).length (some (1,(Zf w).map I))=some (.ptr 3 i 0 (Zf w).length):=by
    rw [VT _ _ _ _ _ _ _ ⟨by omega,hlt⟩];simp
   simp only [go_sem,qy,qq,qv,qk,reduceIte,c46L1b,wH,Zo,hg,gy,hi',hwr,hia,Door.enc,NL.enc,c1,c2,c5003,beq_self_eq_true,hbS,h0,h1])
  (fun i k hk hp=>by
   have hi:=Z7 hk;obtain ⟨j,y,rfl,hy⟩:=UK w hn hk;have hg:=Z6 (f:=I) hk;have gy:=Z6 (f:=Door.enc) hy;have hi':=Zh hi;have hdE:QN w.s (j:Int)=y.Ended:=by simp [QN,hy]
   have hdV:Vu w.s (j:Int)=y.Veil:=by simp [Vu,hy]
   have hdS:XP w.s (j:Int)=y.Street:=by simp [XP,hy]
   have hp':(!((y.Ended != -1||!Z3 y.Veil emp)||!Z3 y.Street d.Street))=false:=by rw [←hdE,←hdV,←hdS];exact hp
   have hlt:((i:Int) < ((Zf w).length:Int)):=by omega
   have hia:iaP 3 (Zf w).length 0 1 (i:Int) (Zf w).length (some (1,(Zf w).map I))=some (.ptr 3 i 0 (Zf w).length):=by
    rw [VT _ _ _ _ _ _ _ ⟨by omega,hlt⟩];simp
   cases c1:(y.Ended != -1) with
   | true=>exact ⟨_,_,by simp only [go_sem,qy,qq,qv,qk,reduceIte,c46L1b,wH,Zo,hg,gy,hi',hia,Door.enc,NL.enc,c1,beq_self_eq_true,hbS,h0,h1];rfl,⟨by simp only [go_sem,qy],by simp only [go_sem,qy],by simp only [go_sem,qy],by simp only [go_sem,qy]⟩,rfl⟩
   | false=>
   cases c2:Z3 y.Veil emp with
   | false=>exact ⟨_,_,by simp only [go_sem,qy,qq,qv,qk,reduceIte,c46L1b,wH,Zo,hg,gy,hi',hia,Door.enc,NL.enc,c1,c2,beq_self_eq_true,hbS,h0,h1];rfl,⟨by simp only [go_sem,qy],by simp only [go_sem,qy],by simp only [go_sem,qy],by simp only [go_sem,qy]⟩,rfl⟩
   | true=>
   cases c5003:Z3 y.Street d.Street with
   | true=>rw [c1,c2,c5003] at hp';cases hp'
   | false=>exact ⟨_,_,by simp only [go_sem,qy,qq,qv,qk,reduceIte,c46L1b,wH,Zo,hg,gy,hi',hia,Door.enc,NL.enc,c1,c2,c5003,beq_self_eq_true,hbS,h0,h1];rfl,⟨by simp only [go_sem,qy],by simp only [go_sem,qy],by simp only [go_sem,qy],by simp only [go_sem,qy]⟩,rfl⟩)
  ⟨_,_,by simp only [go_sem,qy,qq,qv,reduceIte,c46L1b,wH,Zo,ZG,hbS,h0,h1];rfl,⟨by simp only [go_sem,qy],by simp only [go_sem,qy],by simp only [go_sem,qy],by simp only [go_sem,qy]⟩,rfl⟩
 exact L
theorem Z46 (o0 o1:AObj) (h0:∀ n,Zj n o0=true) (h1:∀ n,Zj n o1=true) (l:List Int) (hlen:l.length≤100) (w:Wk) (hu:w.s.Units.length≤1000) (hdd:w.s.Doors.length≤1000000) (hok:∀ (i:Nat) (k:Int),l[i]? = some k→∃ j:Nat,k=(j:Int)∧j < w.s.Doors.length) (d:Door):
 ∃ fr',Zg rE [0,103,104,105] c46L2b [(0,.ptr 2 0 0 1),(103,.sl 3 l.length 0 l.length false),(104,I l.length),(105,.int .i64 0)] (wH o0 o1 w++[.row 1 (l.map I),.row 16 [Zo d]]) =
  some (.exit 4,fr',wH o0 o1 (Yg w l ⟨false,[w.e.Id]⟩)++[.row 1 (l.map I),.row 16 [Zo d]]):=by
 have hbS:∀ n (K:List Int),Zd n (K.map I)=true:=fun n K=>ZN _ (Zw (fun t=>rfl) K)
 have L:=Y8 (E:=rE) (live:=[0,103,104,105]) (b:=c46L2b) l.length
  (fun i=>[(0,.ptr 2 0 0 1),(103,.sl 3 l.length 0 l.length false),(104,I l.length),(105,I i)])
  (fun i=>wH o0 o1 (Yg w (l.take i) ⟨false,[w.e.Id]⟩)++[.row 1 (l.map I),.row 16 [Zo d]]) (fun i=>rfl)
  (fun i hi=>by
   obtain ⟨k,hk⟩:∃ k,l[i]? = some k:=⟨_,ZNQ hi⟩;obtain ⟨j,rfl,hj⟩:=hok i k hk;have hg:=Z6 (f:=I) hk;have hi':=Zh hi;have hwr:=Zx (n:=i) (by omega)
   have hlt:((i:Int) < (l.length:Int)):=by omega
   have hia:iaP 3 l.length 0 1 (i:Int) l.length (some (1,l.map I))=some (.ptr 3 i 0 l.length):=by
    rw [VT _ _ _ _ _ _ _ ⟨by omega,hlt⟩];simp
   rw [Z3Y w hk];have he:=Z3Z (l.take i) ⟨false,[w.e.Id]⟩ w;have hdl:=Z40 (l.take i) ⟨false,[w.e.Id]⟩ w;have hul:=Z41 (l.take i) ⟨false,[w.e.Id]⟩ w;generalize Yg w (l.take i) ⟨false,[w.e.Id]⟩=W at he hdl hul ⊢;obtain ⟨y,hy⟩:∃ y,W.s.Doors[j]? = some y:=⟨_,ZNQ (by rw [hdl];exact hj)⟩
   have hE:=Hq o0 o1 h0 h1 ⟨false,[w.e.Id]⟩ W (by rw [hul];exact hu) (by rw [hdl];exact hdd) j y hy [.row 1 (l.map I),.row 16 [Zo d]] (Or.inr ⟨_,_,rfl,fun n _=>by simp only [go_sem,hbS],fun n _=>rfl⟩)
   have hn:((j:Int)).toNat=j:=rfl;rw [hn];generalize Qf W j ⟨false,[w.e.Id]⟩=W2 at hE ⊢;refine ⟨[(0,.ptr 2 0 0 1),(103,.sl 3 l.length 0 l.length false),(104,I l.length),(105,I (i+1:Nat))],?_,rfl⟩;simp only [wH,Zo,encS,ZNT,ZNR,ZO3,ZO6] at hE ⊢;simp only [go_sem,qy,qq,qv,reduceIte,c46L2b,hg,hi',hwr,hia,he,hE,beq_self_eq_true,hbS,h0,h1])
  (e:=.exit 4) (fr:=[(0,.ptr 2 0 0 1),(103,.sl 3 l.length 0 l.length false),(104,I l.length),(105,I l.length)]) (h:=wH o0 o1 (Yg w (l.take l.length) ⟨false,[w.e.Id]⟩)++[.row 1 (l.map I),.row 16 [Zo d]])
  (by simp only [go_sem,qy,qq,qv,reduceIte,c46L2b,Zo,ZG,wH,hbS,h0,h1]) (by simp)
 rw [ZO0] at L;exact ⟨_,L⟩
theorem FD {l:List Int} (h:0 < l.length):l[0]? = some (l.headD 0):=by
 cases l with
 | nil=>simp at h
 | cons x r=>rfl
theorem Z47 (o0 o1:AObj) (h0:∀ n,Zj n o0=true) (h1:∀ n,Zj n o1=true) (w:Wk) (hw:WkS w) (hne:0 < w.e.Ids.l.length):∃ t,fnV rE 46 [.ptr 2 0 0 1] (wH o0 o1 w)=some (I (Kc w),wH o0 o1 (bif Kc w==0 then Kd w else w)++t):=by
 have hbS:∀ n (K:List Int),Zd n (K.map I)=true:=fun n K=>ZN _ (Zw (fun t=>rfl) K)
 have hcS:∀ K:List Int,Z4 (K.map I)=true:=fun K=>Zw (fun t=>rfl) K
 have htw:=Wj w hw w.e.Id;have z8:((8:Int)==0)=false:=rfl;have z10:((10:Int)==0)=false:=rfl;have z11:((11:Int)==0)=false:=rfl;have z0:((0:Int)==0)=true:=rfl;have hlen:(Zf w).length=w.e.Ids.l.length:=by simp [Zf]
 have hl:=hw.e.ids;obtain ⟨f0,l0,q0,q3⟩:=Z43 o0 o1 h0 h1 w hw;simp only [wH,ZNT,ZNR] at l0;have hz:List.take (Zf w).length ((Zf w).map I)=(Zf w).map I:=ZNW (by simp)
 have hh:=Z42 (Zf w) false (-1) (by omega)
 rw [Q6 (f:=46) rfl rfl];unfold Kc;cases c0:twB w w.e.Id with
 | true=>
  rw [c0] at htw;refine ⟨[],?_⟩;simp only [go_sem,qy,qq,qv,c46,wH,htw,z8,ZNP]
 | false=>
 rw [c0] at htw;cases c1:(Zf w).any (fun x=>-1==x) with
 | true=>
  rw [c1] at hh;refine ⟨[.row 1 ((Zf w).map I)],?_⟩;simp only [go_sem,qy,qq,qv,c46,c46L0,wH,htw,l0,q0,q3,hh,hz,hcS,hbS,h0,h1,z10,beq_self_eq_true]
 | false=>
 rw [c1] at hh;have hk0:=FD (l:=Zf w) (by omega)
 obtain ⟨j,d,hj,hd⟩:=UK w c1 hk0;have hg:=Z6 (f:=I) hk0;have gd:=Z6 (f:=Door.enc) hd;have hlt:((0:Int) < ((Zf w).length:Int)):=by omega
 have hia:iaP 3 (Zf w).length 0 1 (0:Int) (Zf w).length (some (1,(Zf w).map I))=some (.ptr 3 0 0 (Zf w).length):=by
  rw [VT _ _ _ _ _ _ _ ⟨by omega,hlt⟩];simp
 rw [hj] at hg;have hdS:XP w.s (j:Int)=d.Street:=by simp [XP,hd]
 rw [hj,hdS];obtain ⟨f1,g1,l1,a1,b1⟩:=Z45 o0 o1 h0 h1 w hw c1 d;cases c2:Zu (fun _ k=>JG w.s d.Street k) 0 (Zf w) with
 | false=>
  rw [c2] at l1;obtain ⟨⟨p0,p2,p3,p6⟩,rfl⟩:=b1 c2;simp only [wH,Zo,ZNT,ZNR,ZNY,if_false] at l1;refine ⟨[.row 1 ((Zf w).map I),.row 16 [Zo d]],?_⟩;simp only [go_sem,qy,qq,qv,qk,c46,c46L0,c46L1,wH,htw,l0,q0,q3,hh,hz,hcS,hbS,h0,h1,z11,beq_self_eq_true,hg,gd,hia,Door.enc,NL.enc,Zo,l1,p0,p2,p3,p6]
 | true=>
  rw [c2,if_pos rfl] at l1;obtain ⟨⟨p0,p2,p3,p6⟩,rfl⟩:=a1 c2;simp only [wH,Zo,ZNT,ZNR] at l1;have hdb:=hw.s.doors;obtain ⟨q,ho,hq⟩:=Fz o0 o1 w (by omega) (WP w d) [.row 1 ((Zf w).map I),.row 16 [Zo d]] (Or.inr (Or.inr (Or.inl ⟨_,_,rfl⟩)))
  obtain ⟨f2,l2⟩:=Z46 o0 o1 h0 h1 (Zf w) (by omega) (Qw w (WP w d)) hw.s.units (by simp [Qw];omega) (fun (i:Nat) (k:Int) (hk:(Zf w)[i]? = some k)=>by
   obtain ⟨j',d',e1,e2⟩:=UK w c1 hk;exact ⟨j',e1,by have:=Z7 e2;simp [Qw];omega⟩) d
  have hs:Kd w=Yg (Qw w (WP w d)) (Zf w) ⟨false,[w.e.Id]⟩:=by
   have hn:((j:Int)).toNat=j:=rfl;unfold Kd;rw [hj,hn,hd]
  have hid:(Qw w (WP w d)).e.Id=w.e.Id:=rfl;rw [hid] at l2;rw [hs];generalize Yg (Qw w (WP w d)) (Zf w) ⟨false,[w.e.Id]⟩=W2 at l2 ⊢;generalize Qw w (WP w d)=W1 at l2 ho;unfold WP Zo at ho;simp only [wH,Zo,ZNT,ZNR,ZO6] at l2 ho;refine ⟨[.row 1 ((Zf w).map I),.row 16 [Zo d]],?_⟩;simp only [go_sem,qy,qq,qv,qk,c46,c46L0,c46L1,c46L2,wH,htw,l0,q0,q3,hh,hz,hcS,hbS,h0,h1,z0,beq_self_eq_true,hg,gd,hia,Door.enc,NL.enc,l1,p0,p2,p3,p6,ho,l2,Zo]
end Go.AM
namespace Go.AM
open Go
theorem FE (n:Nat) (h:3≤n):Zj n (.row 1 [.ptr 2 0 0 1])=true:=by
 have:decide (2 < n)=true:=decide_eq_true (by omega)
 simp [Zj,Zd,bel];omega
def Ke (e:Event) (x:Building):Building:={ x with Ended:=e.Day }
theorem Z48 (w:Wk) (l:List Building) (k:Nat) (x:Building) (hx:l[k]? = some x) (hle:l.length≤1000000):pfn rE 99 [.isl false false 4 (l.map Building.enc),I k,.clo (.func 100) [] [.iptr true [.iptr true (wkC w)]]]=some (.isl false false 4 ((ZK l k (Ke w.e)).map Building.enc)):=by
 have hk:=Z7 hx;have hg:=Z6 (f:=Building.enc) hx;rw [YA hx,ZO5];refine Xk (sz:=4) (f:=168) rfl rfl rfl _ _ _ (.tup []) false k (by simpa using hk) (Xj (fun _=>rfl) _) (by simpa using hle) ?_ (by simp) ?_
 ·rw [Q6 (f:=100) rfl rfl];simp only [go_sem,qy,qq,qk,c100,beq_self_eq_true,hg,Building.enc,NL.enc,Ke]
 ·rw [←ZO5];exact Zw (fun t=>rfl) _
def NV (id:Str) (x:Door):Bool:=Z3 x.Building id&&x.Ended==-1
def Y6 (w:Wk) (l:List Door):Nat→Wk
 | 0=>w
 | i+1=>match l[i]? with
  | some x=>bif NV w.e.Id x then Qf (Y6 w l i) i ⟨false,[]⟩ else Y6 w l i
  | none=>Y6 w l i
theorem FF (w:Wk) (l:List Door):∀ i,(Y6 w l i).e=w.e∧(Y6 w l i).s.Doors.length=w.s.Doors.length∧(Y6 w l i).s.Units.length=w.s.Units.length
 | 0=>⟨rfl,rfl,rfl⟩
 | i+1=>by
  have ih:=FF w l i;rw [Y6];cases l[i]? with
  | none=>exact ih
  | some x=>
   dsimp only;cases NV w.e.Id x with
   | false=>exact ih
   | true=>
    rw [cond_true,FA,FB,FC];exact ih
def JH (w:Wk) (l:List Building):Wk:={ w with s:={ w.s with Buildings:=l } }
theorem Z49 (o0 o1:AObj) (h0:∀ n,Zj n o0=true) (h1:∀ n,Zj n o1=true) (w:Wk) (hu:w.s.Units.length≤1000) (hd:w.s.Doors.length≤1000):
 ∃ fr',Zg rE [1,46,47,48] c47L0b [(1,.ptr 3 0 0 1),(46,.isl false false 16 (w.s.Doors.map Door.enc)),(47,I w.s.Doors.length),(48,.int .i64 0)] (wH o0 o1 w++[.row 1 [.ptr 2 0 0 1]]) =
  some (.exit 1,fr',wH o0 o1 (Y6 w w.s.Doors w.s.Doors.length)++[.row 1 [.ptr 2 0 0 1]]):=by
 have L:=Y8 (E:=rE) (live:=[1,46,47,48]) (b:=c47L0b) w.s.Doors.length
  (fun i=>[(1,.ptr 3 0 0 1),(46,.isl false false 16 (w.s.Doors.map Door.enc)),(47,I w.s.Doors.length),(48,I i)])
  (fun i=>wH o0 o1 (Y6 w w.s.Doors i)++[.row 1 [.ptr 2 0 0 1]]) (fun i=>rfl)
  (fun i hi=>by
   obtain ⟨x,hx⟩:∃ x,w.s.Doors[i]? = some x:=⟨_,ZNQ hi⟩;have hg:=Z6 (f:=Door.enc) hx;have hi':=Zh hi;have hwr:=Zx (n:=i) (by omega)
   obtain ⟨he,hdl,hul⟩:=FF w w.s.Doors i;have hS:Y6 w w.s.Doors (i+1)=bif Z3 x.Building w.e.Id&&x.Ended==-1 then Qf (Y6 w w.s.Doors i) i ⟨false,[]⟩ else Y6 w w.s.Doors i:=by
    rw [Y6,hx];rfl
   rw [hS];generalize Y6 w w.s.Doors i=W at he hdl hul ⊢;obtain ⟨y,hy⟩:∃ y,W.s.Doors[i]? = some y:=⟨_,ZNQ (by rw [hdl];exact hi)⟩
   have hE:=Hq o0 o1 h0 h1 ⟨false,[]⟩ W (by rw [hul];exact hu) (by rw [hdl];omega) i y hy [.row 1 [.ptr 2 0 0 1],.row 16 [x.enc]] (Or.inr ⟨_,_,rfl,FE,fun n _=>rfl⟩)
   generalize Qf W i ⟨false,[]⟩=W2 at hE ⊢;refine ⟨[(1,.ptr 3 0 0 1),(46,.isl false false 16 (w.s.Doors.map Door.enc)),(47,I w.s.Doors.length),(48,I (i+1:Nat))],?_,rfl⟩;simp only [wH,ZNT,ZNR,ZO6,Door.enc,NL.enc] at hE ⊢;cases c1:Z3 x.Building w.e.Id with
   | false=>simp only [go_sem,qy,qq,qv,qk,reduceIte,c47L0b,hg,hi',hwr,he,c1,Door.enc,NL.enc,h0,h1]
   | true=>
   cases c2:x.Ended==-1 with
   | false=>simp only [go_sem,qy,qq,qv,qk,reduceIte,c47L0b,hg,hi',hwr,he,c1,c2,Door.enc,NL.enc,h0,h1]
   | true=>simp only [go_sem,qy,qq,qv,qk,reduceIte,c47L0b,hg,hi',hwr,he,c1,c2,Door.enc,NL.enc,h0,h1,hE])
  (e:=.exit 1) (fr:=[(1,.ptr 3 0 0 1),(46,.isl false false 16 (w.s.Doors.map Door.enc)),(47,I w.s.Doors.length),(48,I w.s.Doors.length)]) (h:=wH o0 o1 (Y6 w w.s.Doors w.s.Doors.length)++[.row 1 [.ptr 2 0 0 1]])
  (by simp only [go_sem,qy,qq,reduceIte,c47L0b,ZG,wH,h0,h1]) (by simp)
 exact ⟨_,L⟩
def Hs (w:Wk):Int:=bif decide (Y1 w.s w.e.Id < 0) then 10 else bif WL w.s (Y1 w.s w.e.Id) != -1 then 11 else 0
def Ht (w:Wk):Wk:=Y6 (JH w (ZK w.s.Buildings (Y1 w.s w.e.Id).toNat (Ke w.e))) w.s.Doors w.s.Doors.length
theorem Z4a (o0 o1:AObj) (h0:∀ n,Zj n o0=true) (h1:∀ n,Zj n o1=true) (w:Wk) (hw:WkS w):∃ t,fnV rE 47 [.ptr 2 0 0 1] (wH o0 o1 w)=some (I (Hs w),wH o0 o1 (bif Hs w==0 then Ht w else w)++t):=by
 have hb:=Hb w.s hw.s w.e.Id;have z10:((10:Int)==0)=false:=rfl;have z11:((11:Int)==0)=false:=rfl;have z0:((0:Int)==0)=true:=rfl;rw [Q6 (f:=47) rfl rfl];unfold Hs Ht;refine ⟨[.row 1 [.ptr 2 0 0 1]],?_⟩;cases c1:decide (Y1 w.s w.e.Id < 0) with
 | true=>simp only [go_sem,qy,qq,qv,qk,reduceIte,c47,wH,hb,c1,z10]
 | false=>
 obtain ⟨j,x,hj,hx⟩:=QC c1;have hj':Y1 w.s w.e.Id=(j:Int):=hj;have gx:=Z6 (f:=Building.enc) hx;have hE:WL w.s (j:Int)=x.Ended:=by simp [WL,hx]
 have hn:((j:Int)).toNat=j:=rfl;have hch:=Z48 w w.s.Buildings j x hx (by have:=hw.s.buildings;omega)
 rw [hj'] at hb c1 ⊢;rw [hE,hn];cases c2:x.Ended != -1 with
 | true=>simp only [go_sem,qy,qq,qv,qk,reduceIte,c47,wH,hb,c1,gx,Building.enc,NL.enc,c2,z11]
 | false=>
  obtain ⟨f1,l1⟩:=Z49 o0 o1 h0 h1 (JH w (ZK w.s.Buildings j (Ke w.e))) hw.s.units hw.s.doors;have hdd:(JH w (ZK w.s.Buildings j (Ke w.e))).s.Doors=w.s.Doors:=rfl;rw [hdd] at l1;generalize Y6 (JH w (ZK w.s.Buildings j (Ke w.e))) w.s.Doors w.s.Doors.length=W2 at l1 ⊢;simp only [wH,JH,ZNT,ZNR] at l1;simp only [go_sem,qy,qq,qv,qk,reduceIte,c47,c47L0,wH,hb,c1,gx,Building.enc,NL.enc,c2,z0,hch,l1,h0,h1]
end Go.AM
namespace Go.AM
open Go
theorem c48_eq:c48=.seq s48p0 (.seq s48p1 (.seq s48p2 (.seq s48p3 (.seq s48p4 (.seq s48p5 (.seq s48p6 (.seq s48p7 .ret))))))):=rfl
def UL (e:Event) (x:Region):Region:={ x with Ended:=e.Day }
def UM (e:Event) (x:Street):Street:={ x with Ended:=e.Day }
def UN (e:Event) (x:Unit'):Unit':={ x with Ended:=e.Day,Why:=e.Kind }
theorem Z4b (w:Wk) (l:List Region) (k:Nat) (x:Region) (hx:l[k]? = some x) (hle:l.length≤1000000):pfn rE 79 [.isl false false 6 (l.map Region.enc),I k,.clo (.func 101) [] [.iptr true [.iptr true (wkC w)]]]=some (.isl false false 6 ((ZK l k (UL w.e)).map Region.enc)):=by
 have hk:=Z7 hx;have hg:=Z6 (f:=Region.enc) hx;rw [YA hx,ZO5];refine Xk (sz:=6) (f:=156) rfl rfl rfl _ _ _ (.tup []) false k (by simpa using hk) (Xj (fun _=>rfl) _) (by simpa using hle) ?_ (by simp) ?_
 ·rw [Q6 (f:=101) rfl rfl];simp only [go_sem,qy,qq,qk,c101,beq_self_eq_true,hg,Region.enc,NL.enc,UL]
 ·rw [←ZO5];exact Zw (fun t=>rfl) _
theorem Z4c (w:Wk) (l:List Street) (k:Nat) (x:Street) (hx:l[k]? = some x) (hle:l.length≤1000000):pfn rE 84 [.isl false false 5 (l.map Street.enc),I k,.clo (.func 104) [] [.iptr true [.iptr true (wkC w)]]]=some (.isl false false 5 ((ZK l k (UM w.e)).map Street.enc)):=by
 have hk:=Z7 hx;have hg:=Z6 (f:=Street.enc) hx;rw [YA hx,ZO5];refine Xk (sz:=5) (f:=159) rfl rfl rfl _ _ _ (.tup []) false k (by simpa using hk) (Xj (fun _=>rfl) _) (by simpa using hle) ?_ (by simp) ?_
 ·rw [Q6 (f:=104) rfl rfl];simp only [go_sem,qy,qq,qk,c104,beq_self_eq_true,hg,Street.enc,NL.enc,UM]
 ·rw [←ZO5];exact Zw (fun t=>rfl) _
theorem Z4d (w:Wk) (l:List Unit') (k:Nat) (x:Unit') (hx:l[k]? = some x) (hle:l.length≤1000000):pfn rE 106 [.isl false false 6 (l.map Unit'.enc),I k,.clo (.func 107) [] [.iptr true [.iptr true (wkC w)]]]=some (.isl false false 6 ((ZK l k (UN w.e)).map Unit'.enc)):=by
 have hk:=Z7 hx;have hg:=Z6 (f:=Unit'.enc) hx;have hs:∀ v,((l.map Unit'.enc).set k v)[k]? = some v:=fun v=>by simp [hk]
 rw [YA hx,ZO5];refine Xk (sz:=6) (f:=172) rfl rfl rfl _ _ _ (.tup []) false k (by simpa using hk) (Xj (fun _=>rfl) _) (by simpa using hle) ?_ (by simp) ?_
 ·rw [Q6 (f:=107) rfl rfl];simp only [go_sem,qy,qq,qk,c107,beq_self_eq_true,hg,hs,List.set_set,ZOY,ZNL,Unit'.enc,UN]
 ·rw [←ZO5];exact Zw (fun t=>rfl) _
theorem Z4e {E:Env} {α:Type} {sz:Nat} {n:Option Nat} {enc:α→AV} {p:α→Bool} {g:Nat} {cap:List AV} (l:List α) (hfz:∀ x∈l,Ql [] (enc x::cap)=some (enc x::cap)) (hl:l.length≤4611686018427387904) (henc:∀ x∈l,Yu n (enc x))
 (hp:∀ x∈l,pfn E g (enc x::cap)=some (.bool (p x))) (bw ex:Bool):∀ (post pre:List α),l=pre++post→
  ∃ fr',Zb E (.loop [0,1,7,8] (XB sz n)) (Vd sz g cap enc l bw ex pre.length) []=some (if Zp p post pre.length=-1 then .exit 0 else .ret,fr',[])∧(Zp p post pre.length≠-1→get fr' 4=.int .i64 (Zp p post pre.length)):=by
 intro post;induction post with
 | nil=>
  intro pre hpre;have hd:decide ((pre.length:Int) < (l.length:Int))=false:=by subst hpre;simp
  rw [J2];unfold Vd;simp only [go_sem,XB,hd,qy,reduceIte,Zp];exact ⟨_,rfl,fun h=>absurd rfl h⟩
 | cons x post ih=>
  intro pre hpre;have hx:x∈l:=by rw [hpre];simp
  have hlen:pre.length < l.length:=by rw [hpre];simp
  have hd:decide ((pre.length:Int) < (l.length:Int))=true:=by simpa using hlen
  have hget:ixG (l.map enc) (pre.length:Int)=some (enc x):=by rw [hpre,ZNV,ZO3];have:=RK (pre.map enc) (enc x) (post.map enc);rwa [ZNL] at this
  have htk:=(henc x hx).2;have hcl:=hfz x hx;have hpx:=hp x hx;rw [J2];unfold Vd;have hw:IntKind.i64.wrap ((pre.length:Int)+1)=((pre++[x]).length:Int):=by rw [Zx (by omega)];simp
  have hw':((pre++[x]).length:Int)=(pre.length:Int)+1:=by simp
  cases hpv:p x with
  | true=>
   have h0:((pre.length:Int)=-1)=False:=by simp
   simp only [go_sem,XB,hd,hget,htk,hcl,hpx,hpv,qy,reduceIte,Zp,ZNR,ZNT,h0];exact ⟨_,rfl,fun _=>rfl⟩
  | false=>
   obtain ⟨fr',h1,h2⟩:=ih (pre++[x]) (by simp [hpre])
   rw [hw'] at h1 h2;simp only [go_sem,XB,hd,hget,htk,hcl,hpx,hpv,hw,qy,Nat.reduceAdd,reduceIte,Zp,ZNR,ZNT];rw [ZNU] at h1;exact ⟨fr',(Dl (by rfl)).trans h1,h2⟩
theorem FG {E:Env} {f:Nat} {α:Type} {sz:Nat} {n:Option Nat} {enc:α→AV} {p:α→Bool} {g:Nat} {cap:List AV} (hs:E.sum f=none) (hf:E.fn f=some ⟨[.tmp 4],GR sz n⟩) (l:List α) (hfz:∀ x∈l,Ql [] (enc x::cap)=some (enc x::cap)) (hl:l.length≤4611686018427387904)
 (henc:∀ x∈l,Yu n (enc x)) (hp:∀ x∈l,pfn E g (enc x::cap)=some (.bool (p x))) (bw ex:Bool):pfn E f [.isl bw ex sz (l.map enc),.clo (.func g) [] cap]=some (.int .i64 (Zp p l 0)):=by
 rw [Z5 hs hf];obtain ⟨fr',h1,h2⟩:=Z4e (E:=E) l hfz hl henc hp bw ex l [] rfl;have hr:Z2 [0,1,7,8] [(8,AV.int .i64 0),(7,AV.int .i64 l.length),(6,AV.isl bw ex sz (l.map enc)),(4,AV.int .i64 0),(0,AV.isl bw ex sz (l.map enc)),(1,AV.clo (.func g) [] cap)]=Z2 [0,1,7,8] (Vd sz g cap enc l bw ex 0):=by rfl
 have hL:Zb E (.loop [0,1,7,8] (XB sz n)) [(0,AV.isl bw ex sz (l.map enc)),(1,AV.clo (.func g) [] cap),(7,AV.int .i64 l.length),(8,AV.int .i64 0)] []=some (if Zp p l 0=-1 then .exit 0 else .ret,fr',[]):=h1
 unfold GR;by_cases h0:Zp p l 0=-1
 ·rw [if_pos h0] at hL;simp only [go_sem,hL,h0,qy,Nat.reduceAdd,ZNL]
 ·rw [if_neg h0] at hL;have h3:get fr' 4=AV.int .i64 (Zp p l 0):=h2 h0;simp only [go_sem,hL,h3,qy,Nat.reduceAdd,ZNL]
def Kf (s:Sta) (id:Str):Bool:=s.Doors.any (fun x=>Z3 x.Street id&&x.Ended==-1)
theorem Z4f (s:Sta) (hs:StS s) (id:Str):pfn rE 102 [.isl false false 16 (s.Doors.map Door.enc),.clo (.func 103) [] [.iptr true [.str id]]]=some (.bool (Kf s id)):=by
 have hp:∀ x:Door,pfn rE 103 [x.enc,.iptr true [.str id]]=some (.bool (Z3 x.Street id&&x.Ended==-1)):=fun x=>by
  rw [Z5 (f:=103) rfl rfl];cases c1:Z3 x.Street id with
  | false=>simp only [go_sem,qy,qq,c103,Door.enc,NL.enc,c1]
  | true=>simp only [go_sem,qy,qq,reduceIte,c103,Door.enc,NL.enc,c1]
 have h1:=FG (E:=rE) (f:=169) (sz:=16) (n:=some 16) (enc:=Door.enc) (p:=fun x=>Z3 x.Street id&&x.Ended==-1) (g:=103) (cap:=[.iptr true [.str id]]) rfl rfl s.Doors (fun x _=>GQ _ _ rfl (by simp [QJ,msz,Door.enc,NL.enc])) (by have:=hs.doors;omega) (fun x _=>x.el) (fun x _=>hp x) false false
 rw [Z5 (f:=102) rfl rfl];unfold Kf;rw [←Vg];unfold WG;simp only [go_sem,qy,qq,qk,reduceIte,c102,h1]
def Kg (s:Sta) (id:Str):Bool:=!decide (Qo s id < 0)&&WM s (Qo s id)==-1
def Kh (s:Sta) (id:Str):Bool:=!decide (ZL s id < 0)&&QF s (ZL s id)==-1
def Ki (s:Sta) (id:Str):Bool:=!decide (Zn s id < 0)&&QN s (Zn s id)==-1
def NW (s:Sta) (k:Int):Int:=match s.Units[k.toNat]? with | some b=>b.Ended | none=>0
def UO (s:Sta) (id:Str):Bool:=!decide (Wf s id < 0)&&NW s (Wf s id)==-1
def Hu (w:Wk) (l:List Region):Wk:={ w with s:={ w.s with Regions:=l } }
def Hv (w:Wk) (l:List Street):Wk:={ w with s:={ w.s with Streets:=l } }
abbrev shT (w:Wk):Hp:=[.row 1 [.ptr 2 0 0 1],.row 1 [.str w.e.Id]]
theorem Z4g (o0 o1:AObj) (h0:∀ n,Zj n o0=true) (h1:∀ n,Zj n o1=true) (w:Wk) (hw:WkS w):
 (Kg w.s w.e.Id=true→∃ fr' t,Zb rE s48p2 [(1,.ptr 3 0 0 1),(3,.ptr 4 0 0 1)] (wH o0 o1 w++shT w)=some (.ret,fr',wH o0 o1 (Hu w (ZK w.s.Regions (Qo w.s w.e.Id).toNat (UL w.e)))++t)∧get fr' 2=I 0)∧
 (Kg w.s w.e.Id=false→Zb rE s48p2 [(1,.ptr 3 0 0 1),(3,.ptr 4 0 0 1)] (wH o0 o1 w++shT w)=some (.normal,[(1,.ptr 3 0 0 1),(3,.ptr 4 0 0 1),(4,I (Qo w.s w.e.Id)),(32,.bool false)],wH o0 o1 w++shT w)):=by
 have hr:=NI w.s hw.s w.e.Id;unfold Kg;cases c1:decide (Qo w.s w.e.Id < 0) with
 | true=>
  have d1:=JE c1;refine ⟨fun h=>(by cases h),fun _=>?_⟩
  simp only [go_sem,qy,qq,qv,qk,reduceIte,s48p2,wH,shT,hr,d1]
 | false=>
  have d1:=K9 c1;obtain ⟨j,x,hj,hx⟩:=QC c1;have hj':Qo w.s w.e.Id=(j:Int):=hj;have gx:=Z6 (f:=Region.enc) hx;have hE:WM w.s (j:Int)=x.Ended:=by simp [WM,hx]
  have hn:((j:Int)).toNat=j:=rfl;have hch:=Z4b w w.s.Regions j x hx (by have:=hw.s.regions;omega)
  rw [hj'] at hr d1 ⊢;rw [hE,hn];cases c2:x.Ended==-1 with
  | true=>
   refine ⟨fun _=>⟨_,[.row 1 [.ptr 2 0 0 1],.row 1 [.str w.e.Id]],by simp only [go_sem,qy,qq,qv,qk,reduceIte,s48p2,wH,shT,Hu,hr,d1,gx,Region.enc,NL.enc,c2,hch,h0,h1];rfl,by simp only [go_sem,qy]⟩,fun h=>(by cases h)⟩
  | false=>
   refine ⟨fun h=>(by cases h),fun _=>?_⟩
   simp only [go_sem,qy,qq,qv,qk,reduceIte,s48p2,wH,shT,hr,d1,gx,Region.enc,NL.enc,c2,h0,h1]
theorem Z4h (o0 o1:AObj) (h0:∀ n,Zj n o0=true) (h1:∀ n,Zj n o1=true) (w:Wk) (hw:WkS w) (v:AV):
 (Kh w.s w.e.Id=true→∃ fr' t,Zb rE s48p3 [(1,.ptr 3 0 0 1),(3,.ptr 4 0 0 1),(4,v),(32,.bool false)] (wH o0 o1 w++shT w)=some (.ret,fr',wH o0 o1 (bif Kf w.s w.e.Id then w else Hv w (ZK w.s.Streets (ZL w.s w.e.Id).toNat (UM w.e)))++t)∧get fr' 2=I (bif Kf w.s w.e.Id then 11 else 0))∧
 (Kh w.s w.e.Id=false→Zb rE s48p3 [(1,.ptr 3 0 0 1),(3,.ptr 4 0 0 1),(4,v),(32,.bool false)] (wH o0 o1 w++shT w)=some (.normal,[(1,.ptr 3 0 0 1),(3,.ptr 4 0 0 1),(5,I (ZL w.s w.e.Id)),(64,.bool false)],wH o0 o1 w++shT w)):=by
 have hr:=K7 w.s hw.s w.e.Id;have ho:=Z4f w.s hw.s w.e.Id;unfold Kh;cases c1:decide (ZL w.s w.e.Id < 0) with
 | true=>
  have d1:=JE c1;refine ⟨fun h=>(by cases h),fun _=>?_⟩
  simp only [go_sem,qy,qq,qv,qk,reduceIte,s48p3,wH,shT,hr,d1]
 | false=>
  have d1:=K9 c1;obtain ⟨j,x,hj,hx⟩:=QC c1;have hj':ZL w.s w.e.Id=(j:Int):=hj;have gx:=Z6 (f:=Street.enc) hx;have hE:QF w.s (j:Int)=x.Ended:=by simp [QF,hx]
  have hn:((j:Int)).toNat=j:=rfl;have hch:=Z4c w w.s.Streets j x hx (by have:=hw.s.streets;omega)
  rw [hj'] at hr d1 ⊢;rw [hE,hn];cases c2:x.Ended==-1 with
  | true=>
   refine ⟨fun _=>?_,fun h=>(by cases h)⟩
   cases c5003:Kf w.s w.e.Id with
   | true=>
    rw [c5003] at ho;exact ⟨_,[.row 1 [.ptr 2 0 0 1],.row 1 [.str w.e.Id]],by simp only [go_sem,qy,qq,qv,qk,reduceIte,s48p3,wH,shT,hr,d1,gx,Street.enc,NL.enc,c2,ho,h0,h1];rfl,by simp only [go_sem,qy]⟩
   | false=>
    rw [c5003] at ho;exact ⟨_,[.row 1 [.ptr 2 0 0 1],.row 1 [.str w.e.Id]],by simp only [go_sem,qy,qq,qv,qk,reduceIte,s48p3,wH,shT,Hv,hr,d1,gx,Street.enc,NL.enc,c2,ho,hch,h0,h1];rfl,by simp only [go_sem,qy]⟩
  | false=>
   refine ⟨fun h=>(by cases h),fun _=>?_⟩
   simp only [go_sem,qy,qq,qv,qk,reduceIte,s48p3,wH,shT,hr,d1,gx,Street.enc,NL.enc,c2,h0,h1]
theorem Z4i (o0 o1:AObj) (h0:∀ n,Zj n o0=true) (h1:∀ n,Zj n o1=true) (w:Wk) (hw:WkS w) (v:AV):
 (Ki w.s w.e.Id=true→∃ fr' t,Zb rE s48p4 [(1,.ptr 3 0 0 1),(3,.ptr 4 0 0 1),(5,v),(64,.bool false)] (wH o0 o1 w++shT w)=some (.ret,fr',wH o0 o1 (Qf w (Zn w.s w.e.Id).toNat ⟨false,[]⟩)++t)∧get fr' 2=I 0)∧
 (Ki w.s w.e.Id=false→Zb rE s48p4 [(1,.ptr 3 0 0 1),(3,.ptr 4 0 0 1),(5,v),(64,.bool false)] (wH o0 o1 w++shT w)=some (.normal,[(1,.ptr 3 0 0 1),(3,.ptr 4 0 0 1),(6,I (Zn w.s w.e.Id)),(103,.bool false)],wH o0 o1 w++shT w)):=by
 have hr:=find_ok w.s hw.s w.e.Id;unfold Ki;cases c1:decide (Zn w.s w.e.Id < 0) with
 | true=>
  have d1:=JE c1;refine ⟨fun h=>(by cases h),fun _=>?_⟩
  simp only [go_sem,qy,qq,qv,qk,reduceIte,s48p4,wH,shT,hr,d1]
 | false=>
  have d1:=K9 c1;obtain ⟨j,x,hj,hx⟩:=QC c1;have hj':Zn w.s w.e.Id=(j:Int):=hj;have gx:=Z6 (f:=Door.enc) hx;have hE:QN w.s (j:Int)=x.Ended:=by simp [QN,hx]
  have hn:((j:Int)).toNat=j:=rfl;have he:=Hq o0 o1 h0 h1 ⟨false,[]⟩ w hw.s.units (by have:=hw.s.doors;omega) j x hx [.row 1 [.ptr 2 0 0 1],.row 1 [.str w.e.Id]] (Or.inr ⟨_,_,rfl,FE,fun n _=>rfl⟩)
  rw [hj'] at hr d1 ⊢;rw [hE,hn];cases c2:x.Ended==-1 with
  | true=>
   generalize Qf w j ⟨false,[]⟩=W2 at he ⊢;simp only [wH,ZNT,ZNR,ZO6] at he;exact ⟨fun _=>⟨_,[.row 1 [.ptr 2 0 0 1],.row 1 [.str w.e.Id]],by simp only [go_sem,qy,qq,qv,qk,reduceIte,s48p4,wH,shT,hr,d1,gx,Door.enc,NL.enc,c2,he,h0,h1];rfl,by simp only [go_sem,qy]⟩,fun h=>(by cases h)⟩
  | false=>
   refine ⟨fun h=>(by cases h),fun _=>?_⟩
   simp only [go_sem,qy,qq,qv,qk,reduceIte,s48p4,wH,shT,hr,d1,gx,Door.enc,NL.enc,c2,h0,h1]
theorem Z4j (o0 o1:AObj) (h0:∀ n,Zj n o0=true) (h1:∀ n,Zj n o1=true) (w:Wk) (hw:WkS w) (v:AV):
 (UO w.s w.e.Id=true→∃ fr' t,Zb rE s48p5 [(1,.ptr 3 0 0 1),(3,.ptr 4 0 0 1),(6,v),(103,.bool false)] (wH o0 o1 w++shT w)=some (.ret,fr',wH o0 o1 (Qx w (ZK w.s.Units (Wf w.s w.e.Id).toNat (UN w.e)))++t)∧get fr' 2=I 0)∧
 (UO w.s w.e.Id=false→Zb rE s48p5 [(1,.ptr 3 0 0 1),(3,.ptr 4 0 0 1),(6,v),(103,.bool false)] (wH o0 o1 w++shT w)=some (.normal,[(1,.ptr 3 0 0 1),(3,.ptr 4 0 0 1),(7,I (Wf w.s w.e.Id)),(126,.bool false)],wH o0 o1 w++shT w)):=by
 have hr:=Z2Q w.s hw.s w.e.Id;unfold UO;cases c1:decide (Wf w.s w.e.Id < 0) with
 | true=>
  have d1:=JE c1;refine ⟨fun h=>(by cases h),fun _=>?_⟩
  simp only [go_sem,qy,qq,qv,qk,reduceIte,s48p5,wH,shT,hr,d1]
 | false=>
  have d1:=K9 c1;obtain ⟨j,x,hj,hx⟩:=QC c1;have hj':Wf w.s w.e.Id=(j:Int):=hj;have gx:=Z6 (f:=Unit'.enc) hx;have hE:NW w.s (j:Int)=x.Ended:=by simp [NW,hx]
  have hn:((j:Int)).toNat=j:=rfl;have hch:=Z4d w w.s.Units j x hx (by have:=hw.s.units;omega)
  rw [hj'] at hr d1 ⊢;rw [hE,hn];cases c2:x.Ended==-1 with
  | true=>
   refine ⟨fun _=>⟨_,[.row 1 [.ptr 2 0 0 1],.row 1 [.str w.e.Id]],by simp only [go_sem,qy,qq,qv,qk,reduceIte,s48p5,wH,shT,Qx,hr,d1,gx,Unit'.enc,c2,hch,h0,h1];rfl,by simp only [go_sem,qy]⟩,fun h=>(by cases h)⟩
  | false=>
   refine ⟨fun h=>(by cases h),fun _=>?_⟩
   simp only [go_sem,qy,qq,qv,qk,reduceIte,s48p5,wH,shT,hr,d1,gx,Unit'.enc,c2,h0,h1]
def Hw (w:Wk):Int:=
 bif Kg w.s w.e.Id then 0 else bif Kh w.s w.e.Id then (bif Kf w.s w.e.Id then 11 else 0) else bif Ki w.s w.e.Id then 0 else bif UO w.s w.e.Id then 0
 else bif twB w w.e.Id&&decide (Y1 w.s w.e.Id < 0) then 11 else 10
def Hy (w:Wk):Wk:=
 bif Kg w.s w.e.Id then Hu w (ZK w.s.Regions (Qo w.s w.e.Id).toNat (UL w.e))
 else bif Kh w.s w.e.Id then Hv w (ZK w.s.Streets (ZL w.s w.e.Id).toNat (UM w.e))
 else bif Ki w.s w.e.Id then Qf w (Zn w.s w.e.Id).toNat ⟨false,[]⟩
 else Qx w (ZK w.s.Units (Wf w.s w.e.Id).toNat (UN w.e))
theorem Z4k (o0 o1:AObj) (h0:∀ n,Zj n o0=true) (h1:∀ n,Zj n o1=true) (w:Wk) (hw:WkS w):∃ t,fnV rE 48 [.ptr 2 0 0 1] (wH o0 o1 w)=some (I (Hw w),wH o0 o1 (bif Hw w==0 then Hy w else w)++t):=by
 have z10:((10:Int)==0)=false:=rfl;have z11:((11:Int)==0)=false:=rfl;have z0:((0:Int)==0)=true:=rfl;have hR:=Z4g o0 o1 h0 h1 w hw;have hS:=Z4h o0 o1 h0 h1 w hw (I (Qo w.s w.e.Id));have hD:=Z4i o0 o1 h0 h1 w hw (I (ZL w.s w.e.Id));have hU:=Z4j o0 o1 h0 h1 w hw (I (Zn w.s w.e.Id));have htw:=Wj w hw w.e.Id;have hb:=Hb w.s hw.s w.e.Id;simp only [wH,shT,ZNT,ZNR] at hR hS hD hU;rw [Q6 (f:=48) (c:=c48) rfl rfl,c48_eq];unfold Hw Hy;cases c1:Kg w.s w.e.Id with
 | true=>
  obtain ⟨fr',t,h2,h3⟩:=hR.1 c1;refine ⟨t,?_⟩;generalize Hu w (ZK w.s.Regions (Qo w.s w.e.Id).toNat (UL w.e))=W at h2 ⊢;simp only [go_sem,qy,qq,qv,s48p0,s48p1,wH,h2,h3,z0]
 | false=>
 have h2:=hR.2 c1;cases c2:Kh w.s w.e.Id with
 | true=>
  obtain ⟨fr',t,h3,h4⟩:=hS.1 c2;refine ⟨t,?_⟩;cases c5003:Kf w.s w.e.Id with
  | true=>
   rw [c5003] at h3 h4;simp only [cond_true] at h3 h4;simp only [go_sem,qy,qq,qv,s48p0,s48p1,wH,h2,h3,h4,z11]
  | false=>
   rw [c5003] at h3 h4;simp only [cond_false] at h3 h4;generalize Hv w (ZK w.s.Streets (ZL w.s w.e.Id).toNat (UM w.e))=W at h3 ⊢;simp only [go_sem,qy,qq,qv,s48p0,s48p1,wH,h2,h3,h4,z0]
 | false=>
 have h3:=hS.2 c2;cases c5003:Ki w.s w.e.Id with
 | true=>
  obtain ⟨fr',t,h4,h5⟩:=hD.1 c5003;refine ⟨t,?_⟩;generalize Qf w (Zn w.s w.e.Id).toNat ⟨false,[]⟩=W at h4 ⊢;simp only [go_sem,qy,qq,qv,s48p0,s48p1,wH,h2,h3,h4,h5,z0]
 | false=>
 have h4:=hD.2 c5003;cases c5004:UO w.s w.e.Id with
 | true=>
  obtain ⟨fr',t,h5,h6⟩:=hU.1 c5004;refine ⟨t,?_⟩;generalize Qx w (ZK w.s.Units (Wf w.s w.e.Id).toNat (UN w.e))=W at h5 ⊢;simp only [go_sem,qy,qq,qv,s48p0,s48p1,wH,h2,h3,h4,h5,h6,z0]
 | false=>
 have h5:=hU.2 c5004;refine ⟨[.row 1 [.ptr 2 0 0 1],.row 1 [.str w.e.Id]],?_⟩;cases c5005:twB w w.e.Id with
 | false=>
  rw [c5005] at htw;simp only [go_sem,qy,qq,qv,s48p0,s48p1,s48p6,s48p7,wH,h2,h3,h4,h5,htw,z10]
 | true=>
 rw [c5005] at htw;cases c5006:decide (Y1 w.s w.e.Id < 0) with
 | true=>simp only [go_sem,qy,qq,qv,qk,reduceIte,s48p0,s48p1,s48p6,s48p7,wH,h2,h3,h4,h5,htw,hb,c5006,z11]
 | false=>simp only [go_sem,qy,qq,qv,qk,reduceIte,s48p0,s48p1,s48p6,s48p7,wH,h2,h3,h4,h5,htw,hb,c5006,z10]
end Go.AM
namespace Go.AM
open Go
def UP (n:HN) (x:Door):Door:={ x with Number:=n }
theorem Z4l (e:Ent) (l:List Door) (k:Nat) (x:Door) (hx:l[k]? = some x) (hle:l.length≤1000000):pfn rE 95 [.isl false false 16 (l.map Door.enc),I k,.clo (.func 96) [] [.iptr true [.str e.Id,.int .i64 e.Number.N,.str e.Number.Letter,.int .i64 e.Number.Num,.int .i64 e.Number.Den,.int .i64 e.Point.X,.int .i64 e.Point.Y]]]=some (.isl false false 16 ((ZK l k (UP e.Number)).map Door.enc)):=by
 have hk:=Z7 hx;have hg:=Z6 (f:=Door.enc) hx;rw [YA hx,ZO5];refine Xk (sz:=16) (f:=164) rfl rfl rfl _ _ _ (.tup []) false k (by simpa using hk) (Xj (fun _=>rfl) _) (by simpa using hle) ?_ (by simp) ?_
 ·rw [Q6 (f:=96) rfl rfl];simp only [go_sem,qy,qq,qk,c96,beq_self_eq_true,hg,Door.enc,NL.enc,UP]
 ·rw [←ZO5];exact Zw (fun t=>rfl) _
def Kj (s:Sta) (x:Ent):Bool:=decide (Zn s x.Id < 0)
def Hz (w:Wk) (x:Ent):Bool:=QN w.s (Zn w.s x.Id) != -1||!Z3 (XP w.s (Zn w.s x.Id)) w.e.Id
theorem FH {g:Nat} {cap:List AV} {p:Ent→Bool} (l:List Ent) (hl:l.length≤1000) (ex:Bool) (hfz:∀ x∈l,Ql [] (x.enc::cap)=some (x.enc::cap)) (hcl:Ql [] [.isl false ex 7 (l.map Ent.enc),.clo (.func g) [] cap]=some [.isl false ex 7 (l.map Ent.enc),.clo (.func g) [] cap])
 (hp:∀ x∈l,pfn rE g (x.enc::cap)=some (.bool (p x))):pfn rE 93 [.isl false ex 7 (l.map Ent.enc),.clo (.func g) [] cap]=some (.bool (l.any p)):=by
 have h1:=FG (E:=rE) (f:=163) (sz:=7) (n:=some 7) (enc:=Ent.enc) (p:=p) (g:=g) (cap:=cap) rfl rfl l hfz (by omega) (fun x _=>x.el) hp false ex
 rw [Z5 (f:=93) rfl rfl,←Vg];unfold WG;simp only [go_sem,qy,qq,reduceIte,c93,h1,hcl]
abbrev JI (w:Wk):List AV:=[.iptr true [.iptr true (wkC w)]]
theorem ZDV (w:Wk) (x:Ent):Ql [] (x.enc::JI w)=some (x.enc::JI w):=GQ _ _ rfl (by simp [QJ,msz,Ent.enc])
theorem FJ (w:Wk) (g:Nat) (l:List Ent) (ex:Bool):Ql [] [.isl false ex 7 (l.map Ent.enc),.clo (.func g) [] (JI w)]=some [.isl false ex 7 (l.map Ent.enc),.clo (.func g) [] (JI w)]:=GQ _ _ rfl (by simp [QJ,msz])
theorem Z4m (w:Wk) (hw:WkS w):pfn rE 93 [.isl false w.e.Lst.ex 7 (w.e.Lst.l.map Ent.enc),.clo (.func 92) [] (JI w)]=some (.bool (w.e.Lst.l.any (Kj w.s))):=by
 refine FH _ (by have:=hw.e.lst;omega) _ (fun x _=>ZDV w x) (FJ w _ _ _) (fun x _=>?_)
 have hf:=find_ok w.s hw.s x.Id;rw [Z5 (f:=92) rfl rfl];unfold Kj;simp only [go_sem,qy,qq,qk,reduceIte,c92,Ent.enc,hf]
theorem Z4n (w:Wk) (hw:WkS w) (hb:w.e.Lst.l.any (Kj w.s)=false):pfn rE 93 [.isl false w.e.Lst.ex 7 (w.e.Lst.l.map Ent.enc),.clo (.func 94) [] (JI w)]=some (.bool (w.e.Lst.l.any (Hz w))):=by
 refine FH _ (by have:=hw.e.lst;omega) _ (fun x _=>ZDV w x) (FJ w _ _ _) (fun x hx=>?_)
 have hf:=find_ok w.s hw.s x.Id;rw [ZON] at hb;have hb1:decide (Zn w.s x.Id < 0)=false:=by simpa [Kj] using hb x hx
 obtain ⟨j,y,hj,hy⟩:=QC hb1;have hj':Zn w.s x.Id=(j:Int):=hj;have gy:=Z6 (f:=Door.enc) hy;have hdE:QN w.s (j:Int)=y.Ended:=by simp [QN,hy]
 have hdS:XP w.s (j:Int)=y.Street:=by simp [XP,hy]
 unfold Hz;rw [hj'] at hf ⊢;rw [hdE,hdS,Z5 (f:=94) rfl rfl];cases c1:y.Ended != -1 with
 | true=>simp only [go_sem,qy,qq,qv,qk,reduceIte,c94,Ent.enc,hf,gy,Door.enc,NL.enc,c1]
 | false=>simp only [go_sem,qy,qq,qv,qk,reduceIte,c94,Ent.enc,hf,gy,Door.enc,NL.enc,c1]
def Kk (D:List Door) (id:Str):Int:=Zp (fun x:Door=>Z3 x.Id id) D 0
theorem NX {α β:Type} (f:α→β) (p:β→Bool):∀ (l:List α) (i:Int),Zp (fun x=>p (f x)) l i=Zp p (l.map f) i
 | [],_=>rfl
 | x::r,i=>by simp only [Zp,ZO3];rw [NX f p r]
theorem Z4o {D D':List Door} (h:D.map (·.Id)=D'.map (·.Id)) (id:Str):Kk D id=Kk D' id:=by
 unfold Kk;rw [NX (fun x:Door=>x.Id) (fun i=>Z3 i id),NX (fun x:Door=>x.Id) (fun i=>Z3 i id) D',h]
theorem FK {α β:Type} (g:α→β) (f:α→α) (h:∀ x,g (f x)=g x) (l:List α) (k:Nat):(ZK l k f).map g=l.map g:=by
 unfold ZK;cases hk:l[k]? with
 | none=>rfl
 | some x=>
  dsimp only;rw [ZO5,h];have hi:=Z7 hk;have:(l.map g)[k]'(by simpa using hi)=g x:=by
   rw [ZNQ hi] at hk;simp [Option.some.inj hk]
  rw [←this,List.set_getElem_self]
def Yn (D:List Door) (l:List Ent):Nat→List Door
 | 0=>D
 | i+1=>match l[i]? with
  | some x=>ZK (Yn D l i) (Kk (Yn D l i) x.Id).toNat (UP x.Number)
  | none=>Yn D l i
theorem HA (D:List Door) (l:List Ent):∀ i,(Yn D l i).map (·.Id)=D.map (·.Id)
 | 0=>rfl
 | i+1=>by
  rw [Yn];cases l[i]? with
  | none=>exact HA D l i
  | some x=>exact (FK (fun x:Door=>x.Id) (UP x.Number) (fun _=>rfl) _ _).trans (HA D l i)
theorem FL (D:List Door) (l:List Ent) (i:Nat):(Yn D l i).length=D.length:=by
 have:=congrArg List.length (HA D l i);simpa using this
theorem Z4p (o0 o1:AObj) (h0:∀ n,Zj n o0=true) (h1:∀ n,Zj n o1=true) (w:Wk) (hw:WkS w) (hb:w.e.Lst.l.any (Kj w.s)=false):
 ∃ fr',Zg rE [1,54,55,56] c44L0b [(1,.ptr 3 0 0 1),(54,.isl false w.e.Lst.ex 7 (w.e.Lst.l.map Ent.enc)),(55,I w.e.Lst.l.length),(56,.int .i64 0)] (wH o0 o1 w++[.row 1 [.ptr 2 0 0 1]]) =
  some (.exit 0,fr',wH o0 o1 (Ym w (Yn w.s.Doors w.e.Lst.l w.e.Lst.l.length))++[.row 1 [.ptr 2 0 0 1]]):=by
 have hl:=hw.e.lst;have hdoors:=hw.s.doors;have L:=Y8 (E:=rE) (live:=[1,54,55,56]) (b:=c44L0b) w.e.Lst.l.length
  (fun i=>[(1,.ptr 3 0 0 1),(54,.isl false w.e.Lst.ex 7 (w.e.Lst.l.map Ent.enc)),(55,I w.e.Lst.l.length),(56,I i)])
  (fun i=>wH o0 o1 (Ym w (Yn w.s.Doors w.e.Lst.l i))++[.row 1 [.ptr 2 0 0 1]]) (fun i=>rfl)
  (fun i hi=>by
   obtain ⟨x,hx⟩:∃ x,w.e.Lst.l[i]? = some x:=⟨_,ZNQ hi⟩;have hg:=Z6 (f:=Ent.enc) hx;have hi':=Zh hi;have hwr:=Zx (n:=i) (by omega)
   have hS:Yn w.s.Doors w.e.Lst.l (i+1)=ZK (Yn w.s.Doors w.e.Lst.l i) (Kk (Yn w.s.Doors w.e.Lst.l i) x.Id).toNat (UP x.Number):=by
    rw [Yn,hx]
   have hids:=Z4o (HA w.s.Doors w.e.Lst.l i) x.Id;have hlen:=FL w.s.Doors w.e.Lst.l i;rw [hS];generalize Yn w.s.Doors w.e.Lst.l i=D at hids hlen ⊢;have hb2:=hb;rw [ZON] at hb2;have hb1:decide (Kk D x.Id < 0)=false:=by
    rw [hids];have:=hb2 x (ZOa hx);rw [Bool.not_eq_true] at this;exact this
   obtain ⟨j,y,hj,hy⟩:=QC hb1;have hj':Kk D x.Id=(j:Int):=hj;have hf:=find_ok (Ym w D).s ⟨hw.s.regions,hw.s.streets,hw.s.buildings,by show D.length≤1000;omega,hw.s.units,hw.s.merged,hw.s.rulings⟩ x.Id
   have hf2:Zn (Ym w D).s x.Id=(j:Int):=hj;have hn:((j:Int)).toNat=j:=rfl;have hch:=Z4l x D j y hy (by omega)
   rw [hf2] at hf;rw [hj',hn];simp only [Ym] at hf ⊢;refine ⟨[(1,.ptr 3 0 0 1),(54,.isl false w.e.Lst.ex 7 (w.e.Lst.l.map Ent.enc)),(55,I w.e.Lst.l.length),(56,I (i+1:Nat))],?_,rfl⟩;simp only [go_sem,qy,qq,qv,qk,reduceIte,c44L0b,wH,hg,hi',hwr,hf,hch,Ent.enc,h0,h1])
  (e:=.exit 0) (fr:=[(1,.ptr 3 0 0 1),(54,.isl false w.e.Lst.ex 7 (w.e.Lst.l.map Ent.enc)),(55,I w.e.Lst.l.length),(56,I w.e.Lst.l.length)]) (h:=wH o0 o1 (Ym w (Yn w.s.Doors w.e.Lst.l w.e.Lst.l.length))++[.row 1 [.ptr 2 0 0 1]])
  (by simp only [go_sem,qy,qq,qv,reduceIte,c44L0b,ZG,wH,Ym,h0,h1]) (by simp)
 exact ⟨_,L⟩
def HD (w:Wk):Int:=
 bif decide (ZL w.s w.e.Id < 0)||w.e.Lst.l.any (Kj w.s) then 10
 else bif QF w.s (ZL w.s w.e.Id) != -1||w.e.Lst.l.any (Hz w) then 11 else 0
def NY (w:Wk):Wk:=Ym w (Yn w.s.Doors w.e.Lst.l w.e.Lst.l.length)
theorem Z4q (o0 o1:AObj) (h0:∀ n,Zj n o0=true) (h1:∀ n,Zj n o1=true) (w:Wk) (hw:WkS w):∃ t,fnV rE 44 [.ptr 2 0 0 1] (wH o0 o1 w)=some (I (HD w),wH o0 o1 (bif HD w==0 then NY w else w)++t):=by
 have hs:=K7 w.s hw.s w.e.Id;have hb1:=Z4m w hw;have z10:((10:Int)==0)=false:=rfl;have z11:((11:Int)==0)=false:=rfl;have z0:((0:Int)==0)=true:=rfl;rw [Q6 (f:=44) rfl rfl];unfold HD;refine ⟨[.row 1 [.ptr 2 0 0 1]],?_⟩;cases c1:decide (ZL w.s w.e.Id < 0) with
 | true=>simp only [go_sem,qy,qq,qv,qk,reduceIte,c44,wH,hs,c1,z10]
 | false=>
 cases c2:w.e.Lst.l.any (Kj w.s) with
 | true=>
  rw [c2] at hb1;simp only [go_sem,qy,qq,qv,qk,reduceIte,c44,wH,hs,c1,hb1,z10]
 | false=>
 obtain ⟨f1,l1⟩:=Z4p o0 o1 h0 h1 w hw c2;have hb2:=Z4n w hw c2;rw [c2] at hb1;obtain ⟨j,x,hj,hx⟩:=QC c1;have hj':ZL w.s w.e.Id=(j:Int):=hj;have gx:=Z6 (f:=Street.enc) hx;have hE:QF w.s (j:Int)=x.Ended:=by simp [QF,hx]
 rw [hj'] at hs c1 ⊢;rw [hE];cases c5003:x.Ended != -1 with
 | true=>simp only [go_sem,qy,qq,qv,qk,reduceIte,c44,wH,hs,c1,hb1,gx,Street.enc,NL.enc,c5003,z11]
 | false=>
 cases c5004:w.e.Lst.l.any (Hz w) with
 | true=>
  rw [c5004] at hb2;simp only [go_sem,qy,qq,qv,qk,reduceIte,c44,wH,hs,c1,hb1,gx,Street.enc,NL.enc,c5003,hb2,z11]
 | false=>
  rw [c5004] at hb2;unfold NY;generalize Ym w (Yn w.s.Doors w.e.Lst.l w.e.Lst.l.length)=W at l1 ⊢;simp only [wH,ZNT,ZNR] at l1;simp only [go_sem,qy,qq,qv,qk,reduceIte,c44,c44L0,wH,hs,c1,hb1,gx,Street.enc,NL.enc,c5003,hb2,l1,z0,h0,h1]
end Go.AM
namespace Go.AM
open Go
theorem c21_eq:c21=.seq s21p0 (.seq s21p1 (.seq s21p2 (.seq s21p3 (.seq s21p4 (.seq s21p5 (.seq s21p6 .ret)))))):=rfl
structure StF (s:Sta):Prop where
 e:StE s
 regions:s.Regions.length≤500
 streets:s.Streets.length≤500
 buildings:s.Buildings.length≤500
 doors:s.Doors.length≤500
 units:s.Units.length≤500
 merged:s.Merged.length≤500
 rulings:s.Rulings.length≤500
def wk0 (s:Sta) (a:Int) (e:Event):Wk:=⟨s,a,e,Qp s⟩
theorem Z4r (s:Sta):(Qp s).length=s.Regions.length+(s.Streets.length+(s.Buildings.length+(s.Doors.length+s.Units.length))):=by simp [Qp]
theorem Z4s (s:Sta) (hs:StF s) (a:Int) (e:Event) (he:EvS e):WkS (wk0 s a e):=⟨hs.e.sizes,he,by
 have h1:=hs.regions;have h2:=hs.streets;have h3:=hs.buildings;have h4:=hs.doors;have h5:=hs.units;show (Qp s).length≤100000
 rw [Z4r];omega⟩
def Q1 (w:Wk):Int:=
 match w.e.Kind.toNat with
 | 1=>Hi w
 | 2=>bif twB w w.e.Id then 8 else 0
 | 3=>Hk w
 | 4=>Hm w
 | 5=>bif twB w w.e.Id then 8 else 0
 | 6=>JD w
 | 7=>JB w
 | 8=>HD w
 | 9=>Ka w
 | 10=>Kc w
 | 11=>Hs w
 | 12=>Hw w
 | 13=>Hn w
 | 14=>0
 | _=>bif twB w w.e.Id then 8 else 0
def stepW (w:Wk):Wk:=
 match w.e.Kind.toNat with
 | 1=>Hj w
 | 2=>Jz w
 | 3=>Hl w
 | 4=>exW w
 | 5=>JA w
 | 6=>Qw w (UE w)
 | 7=>JC w
 | 8=>NY w
 | 9=>Kb w
 | 10=>Kd w
 | 11=>Ht w
 | 12=>Hy w
 | 13=>Ho w
 | 14=>Hh w
 | _=>Qw w (UD w)
def steps:List AV:=[.nilfn,.clo (.func 37) [] [],.clo (.func 38) [] [],.clo (.func 39) [] [],.clo (.func 40) [] [],.clo (.func 41) [] [],.clo (.func 42) [] [],.clo (.func 43) [] [],.clo (.func 44) [] [],.clo (.func 45) [] [],.clo (.func 46) [] [],.clo (.func 47) [] [],.clo (.func 48) [] [],.clo (.func 49) [] [],.clo (.func 50) [] [],.clo (.func 51) [] []]
abbrev HE:List AV:=[.isl false false 6 [],.isl false false 5 [],.isl false false 4 [],.isl false false 16 [],.isl false false 6 [],.isl false false 2 [],.isl false false 2 []]
abbrev apH (w:Wk):Hp:=wH (.row 7 [.agg HE]) (.row 16 [.agg steps]) w
theorem NZ {w w':Wk} {o0 o1:AObj} {f:Nat} {b:Bool} (h:∃ t,fnV rE f [.ptr 2 0 0 1] (wH o0 o1 w)=some (I (bif b then 8 else 0),wH o0 o1 (bif b then w else w')++t)):
 ∃ t,fnV rE f [.ptr 2 0 0 1] (wH o0 o1 w)=some (I (bif b then 8 else 0),wH o0 o1 (bif (bif b then (8:Int) else 0)==0 then w' else w)++t):=by
 cases b<;>exact h
theorem step_ok (o0 o1:AObj) (h0:∀ n,Zj n o0=true) (h1:∀ n,Zj n o1=true) (w:Wk) (hw:WkS w) (k:Nat) (hk:w.e.Kind=(k:Int)) (hk1:1≤k) (hk2:k≤15) (hp:WK w.s=true) (hn:k=10→0 < w.e.Ids.l.length):
 ∃ g,steps[k]? = some (.clo (.func g) [] [])∧∃ t,fnV rE g [.ptr 2 0 0 1] (wH o0 o1 w)=some (I (Q1 w),wH o0 o1 (bif Q1 w==0 then stepW w else w)++t):=by
 have hkk:w.e.Kind.toNat=k:=by rw [hk];rfl
 have z0:((0:Int)==0)=true:=rfl;unfold Q1 stepW;rw [hkk];rcases (by omega:k=1∨k=2∨k=3∨k=4∨k=5∨k=6∨k=7∨k=8∨k=9∨k=10∨k=11∨k=12∨k=13∨k=14∨k=15) with rfl | rfl | rfl | rfl | rfl | rfl | rfl | rfl | rfl | rfl | rfl | rfl | rfl | rfl | rfl
 ·exact ⟨37,rfl,Z3H o0 o1 h0 h1 w hw⟩
 ·exact ⟨38,rfl,NZ (Z3w o0 o1 w hw)⟩
 ·exact ⟨39,rfl,Z3I o0 o1 h0 h1 w hw⟩
 ·exact ⟨40,rfl,Z3J o0 o1 h0 h1 w hw⟩
 ·exact ⟨41,rfl,NZ (Z3x o0 o1 w hw)⟩
 ·exact ⟨42,rfl,Z3B o0 o1 h0 h1 w hw⟩
 ·exact ⟨43,rfl,Z3z o0 o1 w hw⟩
 ·exact ⟨44,rfl,Z4q o0 o1 h0 h1 w hw⟩
 ·exact ⟨45,rfl,Z3X o0 o1 h0 h1 w hw⟩
 ·exact ⟨46,rfl,Z47 o0 o1 h0 h1 w hw (hn rfl)⟩
 ·exact ⟨47,rfl,Z4a o0 o1 h0 h1 w hw⟩
 ·exact ⟨48,rfl,Z4k o0 o1 h0 h1 w hw⟩
 ·exact ⟨49,rfl,Z3M o0 o1 w hw hp⟩
 ·exact ⟨50,rfl,Z3y o0 o1 w hw⟩
 ·exact ⟨51,rfl,NZ (Z3A o0 o1 h0 h1 w hw)⟩
def Gr (s s':Sta):Prop:=s'.Regions.length≤s.Regions.length+200∧s'.Streets.length≤s.Streets.length+200∧s'.Buildings.length≤s.Buildings.length+200∧s'.Doors.length≤s.Doors.length+200∧s'.Units.length≤s.Units.length+200∧s'.Merged.length≤s.Merged.length+200∧s'.Rulings.length≤s.Rulings.length+200
structure Same (s s':Sta):Prop where
 regions:s'.Regions.length=s.Regions.length
 streets:s'.Streets.length=s.Streets.length
 buildings:s'.Buildings.length=s.Buildings.length
 doors:s'.Doors.length=s.Doors.length
 units:s'.Units.length=s.Units.length
 merged:s'.Merged.length=s.Merged.length
 rulings:s'.Rulings.length=s.Rulings.length
theorem Same.refl (s:Sta):Same s s:=⟨rfl,rfl,rfl,rfl,rfl,rfl,rfl⟩
theorem Same.trans {a b c:Sta} (h:Same a b) (k:Same b c):Same a c:=⟨k.1.trans h.1,k.2.trans h.2,k.3.trans h.3,k.4.trans h.4,k.5.trans h.5,k.6.trans h.6,k.7.trans h.7⟩
theorem Gr.same {a b c:Sta} (h:Gr a b) (k:Same b c):Gr a c:=by
 obtain ⟨h1,h2,h3,h4,h5,h6,h7⟩:=h;exact ⟨by rw [k.1];exact h1,by rw [k.2];exact h2,by rw [k.3];exact h3,by rw [k.4];exact h4,by rw [k.5];exact h5,by rw [k.6];exact h6,by rw [k.7];exact h7⟩
theorem Same.gr {a b:Sta} (k:Same a b):Gr a b:=⟨by rw [k.1];omega,by rw [k.2];omega,by rw [k.3];omega,by rw [k.4];omega,by rw [k.5];omega,by rw [k.6];omega,by rw [k.7];omega⟩
theorem HF (w:Wk) (k:Nat) (a:NL Str):Same w.s (Qf w k a).s:=by
 unfold Qf;split
 ·exact ⟨rfl,rfl,rfl,Xm _ _ _,by simp [Qx,UH],rfl,rfl⟩
 ·exact Same.refl _
theorem Z4t (l:List Int) (a:NL Str):∀ w:Wk,Same w.s (Yg w l a).s:=by
 induction l with
 | nil=>intro w;exact Same.refl _
 | cons x r ih=>intro w;rw [UJ];exact (HF _ _ _).trans (ih _)
theorem FM (w:Wk) (l:List Door):∀ i,Same w.s (Y6 w l i).s
 | 0=>Same.refl _
 | i+1=>by
  have ih:=FM w l i;rw [Y6];cases l[i]? with
  | none=>exact ih
  | some x=>
   dsimp only;cases NV w.e.Id x with
   | false=>exact ih
   | true=>exact ih.trans (HF _ _ _)
theorem M0 (w:Wk) (d:Door):Gr w.s (Qw w d).s:=by
 unfold Gr Qw;simp
theorem Z4u (w:Wk) (hl:w.e.Lst.l.length≤100):Gr w.s (stepW w).s:=by
 unfold stepW;split
 ·unfold Hj;cases decide (Qo w.s w.e.Id < 0) with
  | true=>simp [Gr]
  | false=>simp [Gr,Xm]
 ·simp [Gr,Jz]
 ·unfold Hl;cases decide (Qo w.s w.e.Id ≥ 0) with
  | true=>simp [Gr,Xm]
  | false=>simp [Gr,Xm]
 ·simp [Gr,exW,Xm]
 ·simp [Gr,JA]
 ·exact M0 _ _
 ·simp [Gr,JC]
 ·exact Same.gr ⟨rfl,rfl,rfl,FL _ _ _,rfl,rfl,rfl⟩
 ·unfold Kb;split
  ·refine Gr.same ?_ (HF _ _ _);unfold Gr Y5;simp;omega
  ·exact (Same.refl _).gr
 ·unfold Kd;split
  ·exact Gr.same (M0 _ _) (Z4t _ _ _)
  ·exact (Same.refl _).gr
 ·unfold Ht;refine Same.gr (Same.trans (b:=(JH w (ZK w.s.Buildings (Y1 w.s w.e.Id).toNat (Ke w.e))).s) ⟨rfl,rfl,Xm _ _ _,rfl,rfl,rfl,rfl⟩ (FM _ _ _))
 ·unfold Hy;cases Kg w.s w.e.Id with
  | true=>exact Same.gr ⟨Xm _ _ _,rfl,rfl,rfl,rfl,rfl,rfl⟩
  | false=>
  cases Kh w.s w.e.Id with
  | true=>exact Same.gr ⟨rfl,Xm _ _ _,rfl,rfl,rfl,rfl,rfl⟩
  | false=>
  cases Ki w.s w.e.Id with
  | true=>exact Same.gr (HF _ _ _)
  | false=>exact Same.gr ⟨rfl,rfl,rfl,rfl,Xm _ _ _,rfl,rfl⟩
 ·simp [Gr,Ho]
 ·simp [Gr,Hh]
 ·exact M0 _ _
theorem FN (s:Sta) (hs:StF s) (a:Int) (e:Event) (he:EvS e):StS (stepW (wk0 s a e)).s:=by
 obtain ⟨h1,h2,h3,h4,h5,h6,h7⟩:=Z4u (wk0 s a e) he.lst;have k1:=hs.regions;have k2:=hs.streets;have k3:=hs.buildings;have k4:=hs.doors;have k5:=hs.units;have k6:=hs.merged;have k7:=hs.rulings;have e0:(wk0 s a e).s=s:=rfl;rw [e0] at h1 h2 h3 h4 h5 h6 h7;exact ⟨by omega,by omega,by omega,by omega,by omega,by omega,by omega⟩
def Yh:Sta:=⟨[],[],[],[],[],[],[]⟩
def okB (s:Sta) (a:Int) (e:Event):Bool:=Jx s&&(QM a 0 0&&Q9 e)
def Qk (s:Sta) (a:Int) (e:Event):Int:=
 bif okB s a e then (bif Q1 (wk0 s a e)==0 then (bif Wh (stepW (wk0 s a e)).s.Doors then 0 else 8) else Q1 (wk0 s a e)) else 1
def ZP (s:Sta) (a:Int) (e:Event):Sta:=
 bif okB s a e&&(Q1 (wk0 s a e)==0&&Wh (stepW (wk0 s a e)).s.Doors) then (stepW (wk0 s a e)).s else Yh
abbrev evL (e:Event):List AV:=[I e.Kind,I e.Day,I e.A,I e.B,I e.Office,.str e.Id,.str e.Other,.str e.Text,.isl false e.Ids.ex 1 (e.Ids.l.map encS),.isl false e.Names.ex 3 (e.Names.l.map Nm.enc),
 I e.Number.N,.str e.Number.Letter,I e.Number.Num,I e.Number.Den,I e.Point.X,I e.Point.Y,.isl false e.Path.ex 2 (e.Path.l.map Pt.enc),.isl false e.Lst.ex 7 (e.Lst.l.map Ent.enc)]
theorem Z4v (w:Wk) (hw:WkS w) (k:Nat) (hk:w.e.Kind=(k:Int)) (hk1:1≤k) (hk2:k≤15) (hp:WK w.s=true) (hn:k=10→0 < w.e.Ids.l.length):
 ((Q1 w==0)=true→Zb rE s21p4 [(5,.iptr false (evL w.e)),(6,.ptr 0 0 0 1),(8,.ptr 1 0 0 1),(9,.ptr 2 0 0 1)] (apH w)=some (.normal,[(40,.bool false),(39,I 0),(6,.ptr 0 0 0 1),(9,.ptr 2 0 0 1),(10,I 0)],apH (stepW w)))∧
 ((Q1 w==0)=false→∃ fr' t,Zb rE s21p4 [(5,.iptr false (evL w.e)),(6,.ptr 0 0 0 1),(8,.ptr 1 0 0 1),(9,.ptr 2 0 0 1)] (apH w)=some (.ret,fr',apH w++t)∧get fr' 6=.ptr 0 0 0 1∧get fr' 7=I (Q1 w)):=by
 have h0:∀ n,Zj n (.row 7 [.agg HE])=true:=fun n=>rfl
 have h1:∀ n,Zj n (.row 16 [.agg steps])=true:=fun n=>rfl
 have hlt:(0≤(k:Int)∧(k:Int) < ((16:Nat):Int))=True:=by simp;omega
 have hkn:((k:Int)).toNat=k:=rfl;obtain ⟨g,hg,t,hs⟩:=step_ok _ _ h0 h1 w hw k hk hk1 hk2 hp hn;have htk:takeC none (List.drop k steps)=some (.clo (.func g) [] []):=by
  have hl:k < steps.length:=Z7 hg;rw [ZOA hl,N3];rw [ZNQ hl] at hg;exact hg
 have nz:(Q1 w != 0) = !(Q1 w==0):=rfl;cases c:Q1 w==0 with
 | true=>
  refine ⟨fun _=>?_,fun h=>(by cases h)⟩
  have e0:Q1 w=0:=by simpa using c
  rw [c,cond_true] at hs;simp only [wH,ZNT,ZNR] at hs;rw [e0] at hs;have n0:((0:Int) != 0)=false:=rfl;simp only [go_sem,qy,qq,qv,s21p4,apH,wH,hk,hlt,hkn,if_true,ZOe,ZOf,htk,hs,n0,h0,h1]
 | false=>
  refine ⟨fun h=>(by cases h),fun _=>?_⟩
  rw [c,cond_false] at hs;simp only [wH,ZNT,ZNR] at hs;rw [c] at nz;exact ⟨_,[],by simp only [go_sem,qy,qq,qv,qk,s21p4,apH,wH,hk,hlt,hkn,if_true,ZOe,ZOf,htk,hs,nz,h0,h1,ZNP];rfl,by simp only [go_sem,qy],by simp only [go_sem,qy]⟩
theorem FO (e:Event) (hf:Q9 e=true) (hk:e.Kind=((10:Nat):Int)):0 < e.Ids.l.length:=by
 simp only [Q9,ZNM] at hf;have h:=hf.2.2.2.2;unfold Q8 at h;rw [hk] at h;have h2:(ZD e.Ids.l.length 2 8&&(Qv (e.Id::e.Ids.l)&&(YO e.Number&&gOn e.Point)))=true:=h;rw [ZNM] at h2;have h3:=h2.1;unfold ZD at h3;rw [ZNM] at h3;have:=of_decide_eq_true h3.1;omega
theorem Z4w (e:Event) (hf:Q9 e=true):∃ k:Nat,e.Kind=(k:Int)∧1≤k∧k≤15:=by
 simp only [Q9,ZNM] at hf;have h:=hf.1;unfold ZD at h;rw [ZNM] at h;have h1:=of_decide_eq_true h.1;have h2:=of_decide_eq_true h.2;exact ⟨e.Kind.toNat,by omega,by omega,by omega⟩
theorem Z4x (s:Sta) (h:Jx s=true):WK s=true:=by
 simp only [Jx,ZNM] at h;exact h.2.2.2.2.2.2.2
theorem JJ (s:Sta) (hs:StF s) (a:Int) (e:Event) (he:EvS e):pfn rE 21 [stA s,I a,evA e]=some (.tup [stA (ZP s a e),I (Qk s a e)]):=by
 have hP:=Z3i s hs.e;have hO:=Qc a 0 0;have hF:=NH e he;have hI:=Fd s hs.e.sizes;have hcI:Z4 ((Qp s).map encS)=true:=Zw (fun t=>rfl) _
 rw [Z5 (f:=21) (c:=c21) rfl rfl,c21_eq];have z0:(stA Yh)=.agg HE:=rfl;cases c:okB s a e with
 | false=>
  have e1:Qk s a e=1:=by unfold Qk;rw [c];rfl
  have e2:ZP s a e=Yh:=by unfold ZP;rw [c];rfl
  rw [e1,e2,z0];unfold okB at c;cases c1:Jx s with
  | false=>
   rw [c1] at hP;simp only [go_sem,qy,qq,qv,qk,s21p0,s21p1,hP]
  | true=>
  rw [c1] at hP;cases c2:QM a 0 0 with
  | false=>
   rw [c2] at hO;simp only [go_sem,qy,qq,qv,qk,s21p0,s21p1,hP,hO]
  | true=>
  rw [c2] at hO;cases c5003:Q9 e with
  | false=>
   rw [c5003] at hF;simp only [go_sem,qy,qq,qv,qk,s21p0,s21p1,hP,hO,hF]
  | true=>rw [c1,c2,c5003] at c;cases c
 | true=>
  have c':=c;unfold okB at c';simp only [ZNM] at c';obtain ⟨c1,c2,c5003⟩:=c';obtain ⟨k,hk,hk1,hk2⟩:=Z4w e c5003;obtain ⟨hN,hE⟩:=Z4v (wk0 s a e) (Z4s s hs a e he) k hk hk1 hk2 (Z4x s c1) (fun h=>FO e c5003 (by rw [←h];exact hk))
  rw [c1] at hP;rw [c2] at hO;rw [c5003] at hF;cases c5004:Q1 (wk0 s a e)==0 with
  | false=>
   have e1:Qk s a e=Q1 (wk0 s a e):=by unfold Qk;rw [c,c5004];rfl
   have e2:ZP s a e=Yh:=by unfold ZP;rw [c,c5004];rfl
   obtain ⟨fr',t,h1,h2,h3⟩:=hE c5004;rw [e1,e2,z0];simp only [apH,wH,wk0,wkC,steps,ZNT,ZNR] at h1 h3 ⊢;simp only [go_sem,qy,qq,qv,qk,s21p0,s21p1,s21p2,s21p3,hP,hO,hF,hI,h1,h2,h3]
  | true=>
   have h1:=hN c5004;have hz:=FN s hs a e he;have hB:=Fk (stepW (wk0 s a e)).s hz;generalize hW:stepW (wk0 s a e)=W at h1 hB hz;simp only [apH,wH,wk0,wkC,steps] at h1;cases c5005:Wh W.s.Doors with
   | false=>
    have e1:Qk s a e=8:=by unfold Qk;rw [c,c5004,hW,c5005];rfl
    have e2:ZP s a e=Yh:=by unfold ZP;rw [c,c5004,hW,c5005];rfl
    rw [e1,e2,z0];rw [c5005] at hB;simp only [go_sem,qy,qq,qv,qk,s21p0,s21p1,s21p2,s21p3,s21p5,s21p6,hP,hO,hF,hI,h1,hB]
   | true=>
    have e1:Qk s a e=0:=by unfold Qk;rw [c,c5004,hW,c5005];rfl
    have e2:ZP s a e=W.s:=by unfold ZP;rw [c,c5004,hW,c5005];rfl
    rw [e1,e2];rw [c5005] at hB;simp only [go_sem,qy,qq,qv,qk,s21p0,s21p1,s21p2,s21p3,s21p5,s21p6,hP,hO,hF,hI,h1,hB]
end Go.AM
namespace Go.AM
open Go
def ZcX:List (List UInt8)→List (List UInt8)
 | []=>[]
 | a::r=>match ZcX r with
  | []=>[a]
  | b::s=>if a=b then b::s else a::b::s
theorem ZdC:∀ l:List (List UInt8),Ys (l.map Qd)=(ZcX l).map Qd
 | []=>rfl
 | a::r=>by
  rw [ZO3];unfold Ys ZcX;rw [ZdC r];cases ZcX r with
  | nil=>rfl
  | cons b s=>
   have e:sameKey (Qd a) (Qd b)=decide (a=b):=by
    show Z3 _ _=_
    unfold Z3;have e1:(⟨a.toArray⟩:ByteArray).data.toList=a:=by simp
    have e2:(⟨b.toArray⟩:ByteArray).data.toList=b:=by simp
    rw [e1,e2];by_cases h:a=b
    ·subst h;simp
    ·rw [decide_eq_false h];simpa using h
   show (bif sameKey (Qd a) (Qd b) then _ else _)=_
   rw [e];by_cases h:a=b
   ·simp [h]
   ·simp [h]
theorem Ze5 (a:List UInt8) (r:List (List UInt8)):∃ t,ZcX (a::r)=a::t∧t.length≤r.length:=by
 induction r generalizing a with
 | nil=>exact ⟨[],rfl,ZOb _⟩
 | cons b s ih=>
  obtain ⟨t,h1,h2⟩:=ih b;unfold ZcX;rw [h1];by_cases h:a=b
  ·subst h;exact ⟨t,by simp,by simp;omega⟩
  ·exact ⟨b::t,by simp [h],by simp;omega⟩
def Adj:List (List UInt8)→Prop
 | []=>True
 | [_]=>True
 | a::b::r=>a≠b∧Adj (b::r)
theorem ZdD:∀ l:List (List UInt8),(ZcX l).length=l.length↔Adj l
 | []=>⟨fun _=>trivial,fun _=>rfl⟩
 | [a]=>⟨fun _=>trivial,fun _=>rfl⟩
 | a::b::r=>by
  have ih:=ZdD (b::r);obtain ⟨t,h1,h2⟩:=Ze5 b r;rw [h1] at ih;unfold Adj;rw [←ih];unfold ZcX;rw [h1];by_cases h:a=b
  ·subst h;simp;omega
  ·simp [h]
theorem ZdE:∀ l:List (List UInt8),l.Pairwise (fun a b=>leB a b=true)→Adj l→l.Nodup
 | [],_,_=>.nil
 | [a],_,_=>by simp
 | a::b::r,hs,h=>by
  unfold Adj at h;rw [List.pairwise_cons] at hs;have ih:=ZdE (b::r) hs.2 h.2;rw [ZOH];refine ⟨fun hm=>?_,ih⟩
  rcases ZOI.1 hm with e | hm
  ·exact h.1 e
  ·have hb:=(List.pairwise_cons.1 hs.2).1 a hm;exact h.1 (ET _ _ (hs.1 b (ZOJ ..)) hb)
theorem ZdF:∀ l:List (List UInt8),l.Nodup→Adj l
 | [],_=>trivial
 | [a],_=>trivial
 | a::b::r,h=>by
  rw [ZOH] at h;exact ⟨fun e=>h.1 (by rw [e];exact ZOJ ..),ZdF (b::r) h.2⟩
theorem bytes_inj {a b:Str} (h:a.data.toList=b.data.toList):a=b:=by
 obtain ⟨⟨a⟩⟩:=a;obtain ⟨⟨b⟩⟩:=b;have:a=b:=h;rw [this]
theorem ZdG {α β:Type} {f:α→β} (hf:∀ a b,f a=f b→a=b):∀ {l:List α},(l.map f).Nodup↔l.Nodup
 | []=>by simp
 | a::r=>by
  rw [ZO3,ZOH,ZOH,ZdG hf];refine and_congr_left fun _=>not_congr ⟨fun h=>?_,fun h=>ZOO h⟩
  obtain ⟨b,hb,e⟩:=ZOk.1 h;rw [←hf _ _ e];exact hb
theorem Ze6 (l:List Str):l.map encS=(l.map (fun x:Str=>x.data.toList)).map Qd:=by
 rw [ZOl];apply ZP8;intro x _;obtain ⟨⟨x⟩⟩:=x;rfl
theorem Zdk (l:List Str):Jq l=true↔l.Nodup:=by
 have e:(Ys (Yk (l.map encS))).length=(ZcX (WD (l.map (fun x:Str=>x.data.toList)))).length:=by
  rw [Ze6,D4,ZdC,ZNL]
 have hl:(WD (l.map (fun x:Str=>x.data.toList))).length=l.length:=by
  rw [(RS _).length_eq,ZNL]
 unfold Jq;rw [beq_iff_eq,e];rw [show ((ZcX (WD (l.map (fun x:Str=>x.data.toList)))).length:Int)=(l.length:Int)↔(ZcX (WD (l.map (fun x:Str=>x.data.toList)))).length=(WD (l.map (fun x:Str=>x.data.toList))).length from by rw [hl];omega]
 rw [ZdD];have h1:Adj (WD (l.map (fun x:Str=>x.data.toList)))↔(WD (l.map (fun x:Str=>x.data.toList))).Nodup:=⟨ZdE _ (D8 _),ZdF _⟩
 rw [h1,(RS _).nodup_iff,ZdG (fun a b h=>bytes_inj h)]
end Go.AM
namespace Go.AM
open Go
end Go.AM
namespace Go.AM
open Go
end Go.AM
namespace Go.AM
open Go
structure Prop' (s:Sta):Prop where
 rg:∀ x∈s.Regions,Vo x=true
 st:∀ x∈s.Streets,Vp x=true
 bu:∀ x∈s.Buildings,Vq x=true
 dr:∀ (i:Nat) d,s.Doors[i]? = some d→Vr s i d=true
 un:∀ x∈s.Units,Vs s x=true
 ids:(Qp s).Nodup
 pa:WK s=true
theorem Zda {α:Type} {P:Nat→α→Bool}:∀ {l:List α} {i:Nat},Zu P i l=true↔∀ (j:Nat) x,l[j]? = some x→P (i+j) x=true
 | [],i=>⟨fun _ j x h=>(by simp at h),fun _=>rfl⟩
 | y::r,i=>by
  unfold Zu;rw [ZNM,Zda (l:=r)];constructor
  ·rintro ⟨h1,h2⟩ j x hx;cases j with
   | zero=>cases hx;exact h1
   | succ j=>have:=h2 j x hx;rw [show i+(j+1)=i+1+j by omega];exact this
  ·intro h;exact ⟨h 0 y rfl,fun j x hx=>by have:=h (j+1) x hx;rw [show i+1+j=i+(j+1) by omega];exact this⟩
theorem Zdb (s:Sta):Jx s=true↔Prop' s∧Wh s.Doors=true:=by
 unfold Jx;simp only [ZNM];constructor
 ·rintro ⟨h1,h2,h3,h4,h5,h6,h7,h8⟩;exact ⟨⟨ZO2.1 h1,ZO2.1 h2,ZO2.1 h3,fun i d hd=>by have:=Zda.1 h4 i d hd;rwa [ZOe] at this,ZO2.1 h5,(Zdk _).1 h6,h8⟩,h7⟩
 ·rintro ⟨⟨h1,h2,h3,h4,h5,h6,h8⟩,h7⟩;exact ⟨ZO2.2 h1,ZO2.2 h2,ZO2.2 h3,Zda.2 (fun i d hd=>by rw [ZOe];exact h4 i d hd),ZO2.2 h5,(Zdk _).2 h6,h7,h8⟩
def look {α:Type} (f:α→Str) (l:List α) (id:Str):Int:=Zp (fun x=>Z3 (f x) id) l 0
theorem ZcU {α:Type} {f:α→Str} {l:List α} {id:Str} (h:decide (look f l id < 0)=false):∃ (j:Nat) (x:α),look f l id=(j:Int)∧l[j]? = some x∧f x=id:=by
 unfold look at h ⊢;rcases UA (fun x=>Z3 (f x) id) l 0 with ⟨h1,_⟩ | ⟨j,x,h1,h2,h3⟩
 ·rw [h1] at h;cases h
 ·exact ⟨j,x,by omega,h2,by have:=List.find?_some h3;exact (Ky _ _).1 this⟩
theorem Ze8 {α:Type} {f:α→Str} {l:List α} {x:α} (h:x∈l):decide (look f l (f x) < 0)=false:=by
 unfold look;rcases UA (fun y=>Z3 (f y) (f x)) l 0 with ⟨_,h2⟩ | ⟨j,y,h1,_,_⟩
 ·exfalso;have:=List.find?_eq_none.1 h2 x h;exact this ((Ky _ _).2 rfl)
 ·exact decide_eq_false (by omega)
theorem Zi1 {α:Type} {f:α→Str} {l:List α} {j:Nat} {x:α} (hn:(l.map f).Nodup) (h:l[j]? = some x):look f l (f x)=(j:Int):=by
 obtain ⟨k,y,h1,h2,h3⟩:=ZcU (Ze8 (f:=f) (ZOa h));have hk:(l.map f)[k]? = some (f x):=by rw [ZOX,h2,ZOd,h3]
 have hj:(l.map f)[j]? = some (f x):=by rw [ZOX,h,ZOd]
 have hkl:=(ZOh.1 hk).1;have:k=j:=(List.getElem?_inj hkl hn).1 (hk.trans hj.symm);rw [h1,this]
theorem ZEz (s:Sta) (id:Str):Zn s id=look (fun x:Door=>x.Id) s.Doors id:=rfl
theorem Zd0 (s:Sta) (i:Nat) (d:Door):Vr s i d=true↔QM d.Owner d.Ended d.From=true∧(∀ id∈d.After.l,decide (Zn s id≤i)=false)∧UC d=false∧(Z3 d.Veil emp=true→NO s d=false∧Q9 { Hf d with Kind:=6 }=true)∧(Z3 d.Veil emp=false→NN d=true):=by
 unfold Vr Hg K8;rw [ZNM,ZNM,ZNM,ZO2,ZO9];simp only [ZO9];cases Z3 d.Veil emp with
 | true=>rw [cond_true,ZNM,ZO9];simp
 | false=>rw [cond_false];simp
end Go.AM
namespace Go.AM
open Go
theorem Zd3 {e:Event} (h1:(ZD e.Kind 1 15&&(ZD e.Day 0 100000&&(!Fb (Zq e)&&NG (Zq e))))=true):Q9 e=Q8 e:=by
 unfold Q9;simp only [ZNM] at h1;rw [h1.1,h1.2.1,h1.2.2.1,h1.2.2.2];rfl
theorem Zdu (x:Region):Q9 { Jt x with Kind:=1 }=(ZZ x.Id&&(ZD x.Kind 1 3&&Vh x.Ring.l)):=(Zd3 (by rfl)).trans (by kernel_rfl)
end Go.AM
namespace Go.AM
open Go
end Go.AM
namespace Go.AM
open Go
end Go.AM
namespace Go.AM
open Go
theorem ZdP {K:List Str} {x:Str}:K.any (Z3 x)=true↔x∈K:=by
 rw [List.any_eq_true];exact ⟨fun ⟨y,h1,h2⟩=>by rw [(Ky _ _).1 h2];exact h1,fun h=>⟨x,h,(Ky _ _).2 rfl⟩⟩
end Go.AM
namespace Go.AM
open Go
end Go.AM
namespace Go.AM
open Go
end Go.AM
namespace Go.AM
open Go
end Go.AM
namespace Go.AM
open Go
end Go.AM
namespace Go.AM
open Go
end Go.AM
namespace Go.AM
open Go
end Go.AM
namespace Go.AM
open Go
structure SizeOk (s:Sta):Prop where
 rg:∀ x∈s.Regions,x.Names.l.length≤100∧x.Ring.l.length≤100∧x.Id.size≤1000
 st:∀ x∈s.Streets,x.Names.l.length≤100∧x.Line.l.length≤100∧x.Id.size≤1000
 bu:∀ x∈s.Buildings,x.Ring.l.length≤100∧x.Id.size≤1000
 dr:∀ x∈s.Doors,DoS x
 un:∀ x∈s.Units,x.Id.size≤1000∧x.Door.size≤1000∧x.Text.size≤1000
end Go.AM
namespace Go.AM
open Go
def lvR (l:List Region):List Region:=l.filter (fun x=>x.Ended==-1)
end Go.AM
namespace Go.AM
open Go
def ZU (s:Str):Bool:=!decide ((s.size:Int) > 100)
theorem Vv (bw ex:Bool) (l:List Str) (hl:l.length < 9223372036854775807):pfn rE 33 [.isl bw ex 1 (l.map encS)]=some (.bool (l.all ZU)):=by
 have L:=Uf (E:=rE) (live:=[0,3]) (b:=c33L0b) (h:=[]) l (fun _ x=>ZU x) (fun i=>[(0,.isl bw ex 1 (l.map encS)),(3,I i)]) 0 (fun fr=>get fr 2=.bool false) (fun i=>rfl)
  (fun i x hx hP=>by
   have hg:=Z6 (f:=encS) hx;have hi:=Zh (Z7 hx);have hw:=Zx (n:=i) (by have:=Z7 hx;omega)
   have hP':decide ((x.size:Int) > 100)=false:=by simpa [ZU] using hP
   refine ⟨_,by simp only [go_sem,qy,reduceIte,c33L0b,hg,hi,hw,hP',encS];rfl,?_⟩
   simp only [go_sem,qy])
  (fun i x hx hP=>by
   have hg:=Z6 (f:=encS) hx;have hi:=Zh (Z7 hx);have hP':decide ((x.size:Int) > 100)=true:=by simpa [ZU] using hP
   refine ⟨_,by simp only [go_sem,qy,reduceIte,c33L0b,hg,hi,hP',encS];rfl,?_⟩
   simp only [go_sem,qy])
  (⟨_,by simp only [go_sem,qy,reduceIte,c33L0b,ZG];rfl⟩)
 rw [Z5 (f:=33) rfl rfl];rw [QE] at L;obtain ⟨fr',h1,h2⟩:=L;have h1':Zg rE [0,3] c33L0b [(0,.isl bw ex 1 (l.map encS)),(3,.int .i64 0)] []=_:=h1;cases hc:l.all ZU with
 | true=>rw [hc] at h1';simp only [go_sem,qy,qq,reduceIte,c33,c33L0,h1']
 | false=>
  rw [hc] at h1';have h2':=h2 hc;simp only [go_sem,qy,qq,reduceIte,c33,c33L0,h1',h2',ZNY]
theorem JK (a:Str):pfn rE 33 [.isl false false 1 [.str a]]=some (.bool ([a].all ZU)):=Vv false false [a] (by simp)
theorem HG (a b:Str):pfn rE 33 [.isl false false 1 [.str a,.str b]]=some (.bool ([a,b].all ZU)):=Vv false false [a,b] (by simp)
theorem FP (a b c:Str):pfn rE 33 [.isl false false 1 [.str a,.str b,.str c]]=some (.bool ([a,b,c].all ZU)):=Vv false false [a,b,c] (by simp)
theorem FQ (a b c d e:Str):pfn rE 33 [.isl false false 1 [.str a,.str b,.str c,.str d,.str e]]=some (.bool ([a,b,c,d,e].all ZU)):=Vv false false [a,b,c,d,e] (by simp)
theorem HH {α:Type} {l:List α} {n i:Nat} {x:α} (h:(l.take n)[i]? = some x):l[i]? = some x∧i < n:=by
 have hi:=Z7 h;rw [ZOm] at hi;rw [List.getElem?_take_of_lt (by omega)] at h
 exact ⟨h,by omega⟩
theorem FR {α:Type} (l:List α):(decide ((((l.take 10).length:Nat):Int) < (l.length:Int))=true→decide ((((l.take 10).length:Nat):Int) < 10)=false):=by
 intro h;have:=of_decide_eq_true h;rw [ZOm] at *;exact decide_eq_false (by omega)
def M1 (x:Nm):Bool:=[x.Lang,x.Text].all ZU
def XQ (l:List Nm):Bool:=(l.take 10).all M1&&decide ((l.length:Int)≤10)
theorem UQ (ex:Bool) (l:List Nm):pfn rE 34 [.isl false ex 3 (l.map Nm.enc)]=some (.bool (XQ l)):=by
 have L:=QT (E:=rE) (live:=[0,3]) (b:=c34L0b) (h:=[]) (l.take 10) (fun _ x=>M1 x) (fun i=>[(0,.isl false ex 3 (l.map Nm.enc)),(3,I i)]) 0 (fun fr=>get fr 0=.isl false ex 3 (l.map Nm.enc)∧get fr 2=.bot) (fun fr=>get fr 2=.bool false) (fun i=>rfl)
  (fun i x hx hP=>by
   obtain ⟨hx',hi10⟩:=HH hx;have hg:=Z6 (f:=Nm.enc) hx';have hi:=Zh (Z7 hx');have hw:=Zx (n:=i) (by omega)
   have h10:decide ((i:Int) < 10)=true:=decide_eq_true (by omega)
   have hS:=HG x.Lang x.Text;have hP':[x.Lang,x.Text].all ZU=true:=hP;rw [hP'] at hS;refine ⟨_,by simp only [go_sem,qy,qq,qv,qk,reduceIte,c34L0b,hg,hi,hw,h10,Nm.enc,hS];rfl,?_⟩
   simp only [go_sem,qy])
  (fun i x hx hP=>by
   obtain ⟨hx',hi10⟩:=HH hx;have hg:=Z6 (f:=Nm.enc) hx';have hi:=Zh (Z7 hx');have h10:decide ((i:Int) < 10)=true:=decide_eq_true (by omega)
   have hS:=HG x.Lang x.Text;have hP':[x.Lang,x.Text].all ZU=false:=hP;rw [hP'] at hS;refine ⟨_,by simp only [go_sem,qy,qq,qv,qk,reduceIte,c34L0b,hg,hi,h10,Nm.enc,hS];rfl,?_⟩
   simp only [go_sem,qy])
  (by
   cases c:decide ((((l.take 10).length:Nat):Int) < (l.length:Int)) with
   | true=>
    have h10:=FR l c;exact ⟨_,by simp only [go_sem,qy,reduceIte,c34L0b,c,h10];rfl,by simp only [go_sem,qy],by simp only [go_sem,qy]⟩
   | false=>exact ⟨_,by simp only [go_sem,qy,reduceIte,c34L0b,c];rfl,by simp only [go_sem,qy],by simp only [go_sem,qy]⟩)
 rw [Z5 (f:=34) rfl rfl];rw [QE] at L;obtain ⟨fr',h1,h3,h2⟩:=L;have h1':Zg rE [0,3] c34L0b [(0,.isl false ex 3 (l.map Nm.enc)),(3,.int .i64 0)] []=_:=h1;unfold XQ;cases hc:(l.take 10).all M1 with
 | true=>
  rw [hc] at h1';obtain ⟨q0,q2⟩:=h3 hc;simp only [go_sem,qy,qq,reduceIte,c34,c34L0,h1',q0,q2]
 | false=>
  rw [hc] at h1';have h2':=h2 hc;simp only [go_sem,qy,qq,reduceIte,c34,c34L0,h1',h2',ZNY]
def M2 (x:Ent):Bool:=[x.Id,x.Number.Letter].all ZU
def FT (l:List Ent):Bool:=(l.take 10).all M2
def Xn (e:Event):Bool:=
 FT e.Lst.l&&([e.Id,e.Other,e.Text,e.Number.Letter].all ZU&&(decide ((e.Ids.l.length:Int)≤10)&&(e.Ids.l.all ZU&&(XQ e.Names.l&&(decide ((e.Path.l.length:Int)≤12)&&decide ((e.Lst.l.length:Int)≤10))))))
theorem JL (e:Event) (h:Xn e=true):EvS e:=by
 simp only [Xn,ZNM] at h;obtain ⟨_,h1,h2,h3,h4,h5,h6⟩:=h;have k2:=of_decide_eq_true h2;have k5:=of_decide_eq_true h5;have k6:=of_decide_eq_true h6;have k4:(e.Names.l.length:Int)≤10:=by
  simp only [XQ,ZNM] at h4;exact of_decide_eq_true h4.2
 simp [ZU] at h1;exact ⟨by omega,by omega,by omega,by omega,by omega,by omega,by omega⟩
end Go.AM
namespace Go.AM
open Go
end Go.AM
namespace Go.AM
open Go
theorem Zi8 (s:Str):pfn rE 253 [.str s]=some (.bool (ZZ s)):=by
 have h:=Z1W s;unfold ZZ;generalize Up s=x at h ⊢;obtain ⟨ts,err,pos⟩:=x;unfold Lx.val at h;simp only at h ⊢;rw [Z5 (f:=253) rfl rfl];cases h0:err==0 with
 | false=>simp only [go_sem,qy,qq,qx,qz,qv,qk,reduceIte,c253,h,h0]
 | true=>
  rcases ts with _ | ⟨⟨tk,ta,tn,tt⟩,_ | ⟨t2,ts⟩⟩
  ·have e:(((0:Nat):Int)==1)=false:=rfl;simp only [go_sem,qy,qq,qx,qz,qv,qk,reduceIte,c253,h,h0,e]
  ·have e:(((0+1:Nat):Int)==1)=true:=rfl;have e1:ixG [.agg [I tk,I ta,I tn,.str tt]] 0=some (.agg [I tk,I ta,I tn,.str tt]):=rfl;have e2:(((1:Nat):Int)==1)=true:=rfl;cases h1:tk==1<;>simp only [go_sem,qy,qq,qx,qz,qv,qk,reduceIte,c253,h,h0,e,e1,e2,h1,Tok.enc]
  ·have e:(((ts.length+1+1:Nat):Int)==1)=false:=by
    rw [beq_eq_false_iff_ne];omega
   simp only [go_sem,qy,qq,qx,qz,qv,qk,reduceIte,c253,h,h0,e]
theorem Zi9 (k:Int):pfn rE 207 [I k]=some (.bool (ZD k 1 3)):=by
 rw [Z5 (f:=207) rfl rfl];unfold ZD;cases h:decide (k ≥ 1)<;>simp only [go_sem,qy,qq,qx,qz,qv,qk,reduceIte,c207,h]
def arA (x:Region):AV:=.agg [.str x.Id,I x.Kind,.isl false x.Ring.ex 2 (x.Ring.l.map Pt.enc)]
theorem Zi0 (l:List Region):(lvR l).length≤l.length:=ZOo ..
theorem Zi2 {l:List Region} {i:Nat} {x:Region} (hx:l[i]? = some x):lvR (l.take (i+1))=lvR (l.take i)++(bif x.Ended==-1 then [x] else []):=by
 unfold lvR;rw [ZOV,hx,ZOy];cases h:x.Ended==-1 with
 | true=>simp [h]
 | false=>simp [h]
theorem Zi3 (s:Sta) (hs:StS s):pfn rE 112 [stA s]=some (.isl false false 3 ((lvR s.Regions).map arA)):=by
 have hbS:∀ n (K:List Region),Zd n (K.map arA)=true:=fun n K=>ZN _ (Zw (fun t=>rfl) K)
 have hl:=hs.regions;have L:=Y8 (E:=rE) (live:=[3,7,8,9]) (b:=c112L0b) s.Regions.length
  (fun i=>[(3,.sl 0 (lvR (s.Regions.take i)).length 0 (lvR (s.Regions.take i)).length false),(7,.isl false false 6 (s.Regions.map Region.enc)),(8,I s.Regions.length),(9,I i)])
  (fun i=>[.row 3 ((lvR (s.Regions.take i)).map arA)]) (fun i=>rfl)
  (fun i hi=>by
   obtain ⟨x,hx⟩:∃ x,s.Regions[i]? = some x:=⟨_,ZNQ hi⟩;have hg:=Z6 (f:=Region.enc) hx;have hi':=Zh hi;have hw:=Zx (n:=i) (by omega)
   have hn:(lvR (s.Regions.take i)).length≤1000:=Nat.le_trans (Zi0 _) (by rw [ZOm];omega)
   rw [Zi2 hx];generalize lvR (s.Regions.take i)=KS at hn ⊢;cases c:x.Ended==-1 with
   | false=>
    rw [cond_false,ZNP];refine ⟨_,by simp only [go_sem,qy,qq,qx,qz,qv,qk,reduceIte,c112L0b,hg,hi',hw,Region.enc,NL.enc,c,hbS];rfl,?_⟩
    simp only [go_sem,qy,qq,qx,qz,qv,qk,reduceIte]
   | true=>
    have ha:=fun q=>XC (h:=[.row 3 (KS.map arA),q]) (fz:=false) (b:=0) (g:=KS.length) (sz:=3) (es:=KS.map arA) (bw:=false) (ex:=false) (ys:=[.agg [.str x.Id,I x.Kind,.isl false x.Ring.ex 2 (x.Ring.l.map Pt.enc)]]) (bytes:=48) (by simp [rowAt]) rfl (by rfl) (by omega) (by omega) (by simp;omega)
    have e1:(KS++[x]).map arA=KS.map arA++[.agg [.str x.Id,I x.Kind,.isl false x.Ring.ex 2 (x.Ring.l.map Pt.enc)]]:=by rw [ZNV];rfl
    rw [cond_true,e1,ZNU,ZOp];refine ⟨_,by simp only [go_sem,qy,qq,qx,qz,qv,qk,reduceIte,c112L0b,hg,hi',hw,Region.enc,NL.enc,c,ha,beq_self_eq_true,hbS];rfl,?_⟩
    simp only [go_sem,qy,qq,qx,qz,qv,qk,reduceIte])
  (e:=.exit 0) (by simp only [go_sem,qy,qq,qx,qz,qv,qk,reduceIte,c112L0b,ZG,ZO0];rfl) (by simp)
 have e0:lvR (s.Regions.take 0)=[]:=rfl;simp only [e0,ZNZ,ZO6] at L;have L':Zg rE [3,7,8,9] c112L0b [(3,.sl 0 0 0 0 false),(7,.isl false false 6 (s.Regions.map Region.enc)),(8,I s.Regions.length),(9,.int .i64 0)] [.row 3 []]=_:=L;rw [Z5 (f:=112) rfl rfl];have hcl:Z4 ((lvR s.Regions).map arA)=true:=Zw (fun t=>rfl) _
 have htk:((lvR s.Regions).map arA).take (lvR s.Regions).length=(lvR s.Regions).map arA:=ZNW (by rw [ZNL];omega)
 simp only [go_sem,qy,qq,qx,qz,qv,qk,reduceIte,c112,c112L0,L',hbS,beq_self_eq_true,ZOc,htk,hcl]
end Go.AM
namespace Go.AM
open Go
theorem Zia {K:List Str} {x:Str} (h:x ∉ K):Qi Z3 K x=K++[x]:=by
 unfold Qi;cases hx:K.any (Z3 x) with
 | true=>exact absurd (ZdP.1 hx) h
 | false=>rfl
theorem Zib (L:List Region) (hl:L.length≤400) (hn:(L.map (·.Id)).Nodup) (hv:∀ x∈L,ZZ x.Id=true∧ZD x.Kind 1 3=true∧Vh x.Ring.l=true∧x.Ring.l.length≤1000000):
 pfn rE 206 [.isl false false 3 (L.map arA)]=some (.bool true):=by
 have hb2:∀ n (K:List Str),Zd n (K.map encS)=true:=fun n K=>ZN _ (Zw (fun t=>rfl) K)
 have hb3:∀ n k,Zd n (ZO k)=true:=fun n k=>ZN _ (Ut k)
 have H:=Y8 (E:=rE) (live:=[0,3,7,8,9]) (b:=c206L0b) L.length (fun i=>[(0,.isl false false 3 (L.map arA)),(3,.mp 0),(7,.isl false false 3 (L.map arA)),(8,I L.length),(9,I i)])
  (fun i=>[.map (((L.take i).map (·.Id)).map encS) (ZO ((L.take i).map (·.Id)).length)]) (fun i=>rfl)
  (fun i hi=>by
   obtain ⟨x,hx⟩:∃ x,L[i]? = some x:=⟨_,ZNQ hi⟩;have hg:=Z6 (f:=arA) hx;have hi':=Zh hi;have hw:=Zx (n:=i) (by omega)
   obtain ⟨v1,v2,v3,v4⟩:=hv x (ZOa hx);have k1:=Zi8 x.Id;have k2:=Zi9 x.Kind;have k3:=Dz x.Ring.l x.Ring.ex v4;rw [v1] at k1;rw [v2] at k2;rw [v3] at k3;have ht:=YW (fun x:Region=>x.Id) hx
   have hnew:x.Id ∉ (L.take i).map (·.Id):=by
    intro hm;have h1:(((L.take (i+1)).map (·.Id))).Nodup:=by
     rw [List.map_take];exact hn.sublist (List.take_sublist _ _)
    rw [ht,ZOz] at h1;exact h1.2.2 _ hm _ (ZOv.2 rfl) rfl
   have hf:=Zia hnew;have hany:((L.take i).map (·.Id)).any (Z3 x.Id)=false:=by
    cases hc:((L.take i).map (·.Id)).any (Z3 x.Id) with
    | false=>rfl
    | true=>exact absurd (ZdP.1 hc) hnew
   rw [ht];generalize (L.take i).map (·.Id)=K at hf hany ⊢;have hp:=fun hh=>Ur (ag:=false) (kk:=[2]) (enc:=encS) (eq:=Z3) Z1Y K x.Id (h:=.map (K.map encS) (ZO K.length)::hh) (b:=0) rfl
   have hq:=fun hh=>H5 (ag:=false) (kk:=[2]) (enc:=encS) (eq:=Z3) Z1Y K x.Id (h:=.map (K.map encS) (ZO K.length)::hh) (b:=0) rfl
   rw [hf] at hp;rw [hany] at hq;simp only [encS] at hp hq;simp only [arA] at hg;refine ⟨_,by simp only [go_sem,qy,qq,qx,qz,qv,qk,reduceIte,c206L0b,hg,hi',hw,k1,k2,k3,hp,hq,hb2,hb3];rfl,?_⟩
   simp only [go_sem,qy,qq,qx,qz,qv,qk,reduceIte])
  (e:=.exit 0) (by simp only [go_sem,qy,qq,qx,qz,qv,qk,reduceIte,c206L0b,ZG];rfl) (by simp)
 have H':Zg rE [0,3,7,8,9] c206L0b [(0,.isl false false 3 (L.map arA)),(3,.mp 0),(7,.isl false false 3 (L.map arA)),(8,I L.length),(9,.int .i64 0)] [.map [] []]=_:=H;have h400:decide ((L.length:Int)≤400)=true:=decide_eq_true (by omega)
 rw [Z5 (f:=206) rfl rfl];simp only [go_sem,qy,qq,qx,qz,qv,qk,reduceIte,c206,c206L0,H',h400]
end Go.AM
namespace Go.AM
open Go
theorem Z4M (E:Env) (hf:E.fn 69=some a69) (hs:E.sum 69=none) (v:Str):pfn E 69 [.str v]=some (.str v):=by
 rw [Z5 (f:=69) hs hf];simp only [go_sem,qy,qq,c69]
theorem ZGM (E:Env) (hf:E.fn 71=some a71) (hs:E.sum 71=none) (v:Str) (a b:Int):pfn E 71 [.agg [.str v,I a,I b]]=some (.str v):=by
 rw [Z5 (f:=71) hs hf];simp only [go_sem,qy,qq,c71]
theorem ZFO (v:Str):pfn e0 182 [.str v]=some (.bool false):=by
 have hn:Z3 v v=true:=by unfold Z3;simp
 rw [Z5 (f:=182) rfl rfl];simp only [go_sem,qy,qq,c182,hn,ZNN]
theorem ZEA (a b:Str):WW a b=decide (a.data.toList < b.data.toList):=by
 unfold WW;rw [Go.Proofs.bytesLess_eq]
theorem ZFP (a b:Str):pfn e0 124 [.str a,.str b]=some (I (ZEg a.data.toList b.data.toList)):=by
 have h1:=ZFO a;have h2:=ZFO b;unfold ZEg;rw [←ZEA,←ZEA];rw [Z5 (f:=124) rfl rfl];cases c:WW a b with
 | true=>simp only [go_sem,qy,qq,c124,h1,h2,c]
 | false=>
  cases c2:WW b a with
  | true=>
   have c5003:Z3 a b=false:=by
    cases h:Z3 a b with
    | false=>rfl
    | true=>
     exfalso;have he:a.data.toList=b.data.toList:=by unfold Z3 at h;simpa using h
     rw [ZEA,he,decide_eq_true_iff] at c2;exact List.lt_irrefl _ c2
   simp only [go_sem,qy,qq,c124,h1,h2,c,c5003,ZNS,Bool.or_false]
  | false=>
   have c5003:Z3 a b=true:=by
    rw [ZEA,decide_eq_false_iff_not] at c c2;unfold Z3;simp only [beq_iff_eq];exact List.le_antisymm c2 c
   simp only [go_sem,qy,qq,c124,h1,h2,c,c5003,ZNN,ZOn]
def ZEa (k:Nat):AV:=.clo (.func k) [] []
theorem ZFQ {k:Nat} {caps:List AV} (h:ckS k caps=true):caps=[.iptr false [ZEa k]]:=by
 unfold ckS at h;split at h
 ·rw [ZP9 h];rfl
 ·cases h
theorem ZGN (caps:List AV) (x y:List UInt8) (h:ckS 69 caps=true):∃ h',fnV e0 123 ([Qd x,Qd y]++caps) []=some (.int .i64 (ZEg x y),h'):=by
 obtain rfl:=ZFQ h;have h1:=Z4M e0 rfl rfl;have h2:=ZFP ⟨x.toArray⟩ ⟨y.toArray⟩;simp only [List.toList_toArray] at h2;unfold Qd ZEa;rw [Q6 (f:=123) rfl rfl];simp only [ZNT,ZNR];exact ⟨_,by simp only [go_sem,qy,qq,c123,h1,h2];rfl⟩
def ZE4 (s:Str):List Int:=s.data.toList.map fun b=>(b.toNat:Int)
theorem ZEM:∀ x y:List UInt8,lexB (x.map fun b=>(b.toNat:Int)) (y.map fun b=>(b.toNat:Int))=decide (x < y)
 | [],[]=>by simp [lexB]
 | [],_::_=>by simp [lexB]
 | _::_,[]=>by simp [lexB]
 | a::r,b::s=>by
  simp only [ZO3,lexB,ZEM r s];rw [ZOU];simp only [Bool.or_eq_true,ZNM,decide_eq_true_eq,beq_iff_eq,List.cons_lt_cons_iff,UInt8.lt_iff_toNat_lt,←UInt8.toNat_inj,Int.ofNat_lt,Int.natCast_inj]
theorem ZGO (x y:List UInt8):cmpL (x.map fun b=>(b.toNat:Int)) (y.map fun b=>(b.toNat:Int))=ZEg x y:=by
 unfold cmpL ZEg;rw [ZEM,ZEM]
theorem ZFR {caps:List AV} {x:AV} {k:List Int} (h:ZEm caps x=some k):caps=[.iptr false [ZEa 71]]∧∃ (s:Str) (a b:Int),x=.agg [.str s,I a,I b]∧k=ZE4 s:=by
 unfold ZEm at h;cases hc:ckS 71 caps with
 | false=>rw [hc] at h;cases h
 | true=>
  rw [hc,cond_true] at h;refine ⟨ZFQ hc,?_⟩;unfold ZEf at h;split at h
  ·cases h;exact ⟨_,_,_,rfl,rfl⟩
  ·cases h
theorem ZGP (caps:List AV) (x y:AV) (kx ky:List Int) (hx:ZEm caps x=some kx) (hy:ZEm caps y=some ky):∃ h',fnV e0 126 ([x,y]++caps) []=some (.int .i64 (cmpL kx ky),h'):=by
 obtain ⟨rfl,s,a,b,rfl,rfl⟩:=ZFR hx;obtain ⟨_,t,a',b',rfl,rfl⟩:=ZFR hy;have h1:=ZGM e0 rfl rfl;have h2:=ZFP s t;unfold ZE4 ZEa;rw [ZGO,Q6 (f:=126) rfl rfl];simp only [ZNT,ZNR];exact ⟨_,by simp only [go_sem,qy,qq,qk,c126,h1,h2];rfl⟩
theorem ZFS {h:Hp} {b:Nat} {o o2:AObj} (hb:h[b]? = some o2):(setH h b o).length=h.length:=by
 have hl:b < h.length:=(ZOh.1 hb).1;unfold setH;rw [show Nat.blt b h.length=true by simpa using hl,cond_true,ZOY]
theorem ZE5 {n:Nat} {fr:Fr} {h:Hp} (hl:h.length=n):Xq n fr h=h:=by
 unfold Xq;rw [ZNW (by omega)]
 cases Zd n (fr.map (·.2))&&X4 n h<;>rfl
theorem ZGQ (args:List AV) (h:Hp) (v:AV) (wr:Option (Nat×AObj)) (he:ZE8 (ZE7 69) h args=some (v,wr)):fnV e1 68 args h=some (v,ZH h wr):=by
 unfold ZE8 at he;split at he
 ·rename_i b g off len ex r;split at he
  ·rename_i sz es hb;cases hc:es.length==g&&(off==0&&len==g) with
   | false=>rw [hc] at he;cases he
   | true=>
    rw [hc,cond_true] at he;simp only [Option.map_eq_some_iff] at he;obtain ⟨es',h1,h2⟩:=he;cases h2;unfold ZE7 at h1;split at h1
    ·rename_i k;cases hc2:Nat.beq k 69&&(sz==1&&(es.all WB&&Nat.ble es.length 1000000)) with
     | false=>rw [hc2] at h1;cases h1
     | true=>
      rw [hc2] at h1;cases h1;simp only [ZNM,beq_iff_eq] at hc hc2;obtain ⟨c1,rfl,c5003,c5004⟩:=hc2;obtain rfl:=ZP9 c1;obtain ⟨rfl,rfl,rfl⟩:=hc;have hs:fnV e1 122 [.sl b es.length 0 es.length ex,.clo (.func 123) [] [.iptr false [.clo (.func 69) [] []]]] h=some (.tup [],setH h b (.row 1 (Yk es))):=by
       rw [V8 (s:=ZEt 123 (ckS 69)) rfl];unfold ZEt;simp only [hb,c5003,c5004,beq_self_eq_true,ZNX,ZO7];rfl
      rw [Q6 (f:=68) rfl rfl];simp only [go_sem,qy,qq,c68,hs,ZH,ZE5 (ZFS hb)]
    ·cases h1
  ·cases he
 ·rename_i bw ex sz r;split at he
  ·rename_i h1;cases he;unfold ZE7 at h1;split at h1
   ·rename_i k;have hs:∀ sz,fnV e1 122 [.isl bw ex sz [],.clo (.func 123) [] [.iptr false [.clo (.func k) [] []]]] h=some (.tup [],h):=fun sz=>by
     rw [V8 (s:=ZEt 123 (ckS 69)) rfl];rfl
    rw [Q6 (f:=68) rfl rfl];simp only [go_sem,qy,qq,c68,hs,ZH,ZE5 (h:=h) rfl]
   ·cases h1
  ·cases he
 ·cases he
theorem ZGR (args:List AV) (h:Hp) (v:AV) (wr:Option (Nat×AObj)) (he:ZE8 (ZEe 71 3 ZEf) h args=some (v,wr)):fnV e1 70 args h=some (v,ZH h wr):=by
 unfold ZE8 at he;split at he
 ·rename_i b g off len ex r;split at he
  ·rename_i sz es hb;cases hc:es.length==g&&(off==0&&len==g) with
   | false=>rw [hc] at he;cases he
   | true=>
    rw [hc,cond_true] at he;simp only [Option.map_eq_some_iff] at he;obtain ⟨es',h1,h2⟩:=he;cases h2;unfold ZEe at h1;split at h1
    ·rename_i k;split at h1
     ·rename_i l hl;cases hc2:Nat.beq k 71&&(sz==3&&(Z4 es&&(es.all Zwl&&(es.all (fits 3)&&(ZvJ l&&Nat.ble es.length 1000000))))) with
      | false=>rw [hc2] at h1;cases h1
      | true=>
       rw [hc2] at h1;cases h1;simp only [ZNM,beq_iff_eq] at hc hc2;obtain ⟨c1,rfl,c5003,c5004,c5005,c5006,c5007⟩:=hc2;obtain rfl:=ZP9 c1;obtain ⟨rfl,rfl,rfl⟩:=hc;have hs:fnV e1 125 [.sl b es.length 0 es.length ex,.clo (.func 126) [] [.iptr false [.clo (.func 71) [] []]]] h=some (.tup [],setH h b (.row 3 ((ZvN l).map (·.2)))):=by
        rw [V8 (s:=ZvW 126 3 ZEm) rfl];unfold ZvW;have hk:keysOf (ZEm [.iptr false [.clo (.func 71) [] []]]) es=some l:=hl;cases es with
        | nil=>
         cases hl;simp only [hb];have e1:setH h b (.row 3 [])=h:=RT hb;exact congrArg some (Prod.ext rfl e1.symm)
        | cons a r=>
         simp only [hb,hk,c5003,c5004,c5005,c5006,c5007,beq_self_eq_true,ZNX,ZO7,ZP0,cond_false,ZNS];rfl
       rw [Q6 (f:=70) rfl rfl];simp only [go_sem,qy,qq,c70,hs,ZH,ZE5 (ZFS hb)]
     ·cases h1
    ·cases h1
  ·cases he
 ·rename_i bw ex sz r;split at he
  ·rename_i h1;cases he;unfold ZEe at h1;split at h1
   ·rename_i k;have hs:∀ sz,fnV e1 125 [.isl bw ex sz [],.clo (.func 126) [] [.iptr false [.clo (.func k) [] []]]] h=some (.tup [],h):=fun sz=>by
     rw [V8 (s:=ZvW 126 3 ZEm) rfl];rfl
    rw [Q6 (f:=70) rfl rfl];simp only [go_sem,qy,qq,c70,hs,ZH,ZE5 (h:=h) rfl]
   ·cases h1
  ·cases he
 ·cases he
end Go.AM
namespace Go.AM
open Go
def ffr (t:AV):Fr:=[(4,.ptr 0 0 0 1),(5,I 0),(7,.ptr 3 0 0 1),(19,t)]
def fP (lp:AObj) (D E:List AV) (tl:List AObj):List AObj:=
 .row 2 [.agg [.isl false false 1 [],.isl false false 3 []]]::.row 1 D::.row 3 E::.row 2 [.agg [.sl 1 D.length 0 D.length false,.sl 2 E.length 0 E.length false]]::lp::tl
def feL (st:LoopState) (t:AV):AObj:=.loop st .normal (ffr t) [20] c31R0a c31R0b
theorem ZEp (h:Hp) (x y:AObj):setH (h++[x]) h.length y=h++[y]:=by
 unfold setH;rw [show Nat.blt h.length (h++[x]).length=true by simp,cond_true,ZOZ _ _ (ZOb _)]
 simp
theorem ZGS (t:AV) (d:Door) (lp:AObj) (D E:List AV) (tl:List AObj):Zb rE c31R0a ((20,d.enc)::ffr t) (fP lp D E tl)=some (.normal,(8,.ptr (tl.length+5) 0 0 1)::(20,d.enc)::ffr t,fP lp D E (tl++[.row 16 [d.enc]])):=by
 simp only [go_sem,qy,qq,qk,c31R0a,fP,ffr,Door.enc,NL.enc,ZNT,ZO1,ZEp]
theorem ZEx {n:Nat} {h:Hp} {b:Bool} (hl:h.length=n):trimB n h b=h:=by
 unfold trimB;cases b with
 | true=>rw [cond_true,ZNW (by omega)]
 | false=>rfl
theorem ZF2 (r0 r1 r2 r3 r4 x:AObj) (tl:List AObj) (b:Bool):trimB (tl.length+1+1+1+1+1+1) (r0::r1::r2::r3::r4::(tl++[x])) b=r0::r1::r2::r3::r4::(tl++[x]):=ZEx (by simp)
def faD (d:Door) (D:List AV):List AV:=bif decide (d.Ended < 0) then D++[.str d.Id] else D
def ZEB (d:Door):AV:=.agg [.str d.Id,I d.Why,I d.Ended]
def faE (d:Door) (E:List AV):List AV:=bif !decide (d.Ended < 0)&&d.After.l.isEmpty then E++[ZEB d] else E
theorem ZGT (t:AV) (d:Door) (lp:AObj) (D E:List AV) (tl:List AObj) (h1:D.length≤1000) (h2:E.length≤1000):Zb rE c31R0b ((8,.ptr (tl.length+5) 0 0 1)::(20,d.enc)::ffr t) (fP lp D E (tl++[.row 16 [d.enc]])) =
 some (.normal,[],fP lp (faD d D) (faE d E) (tl++[.row 16 [d.enc]])):=by
 have a1:=fun (r0 r2 r3 r4:AObj) (tl:List AObj)=>XC (h:=r0::.row 1 D::r2::r3::r4::tl) (fz:=false) (b:=1) (g:=D.length) (sz:=1) (es:=D) (bw:=false) (ex:=false) (ys:=[.str d.Id]) (bytes:=16) (by simp [rowAt]) rfl (by rfl) (by omega) (by omega) (by simp;omega)
 have a2:=fun (r0 r1 r3 r4:AObj) (tl:List AObj)=>XC (h:=r0::r1::.row 3 E::r3::r4::tl) (fz:=false) (b:=2) (g:=E.length) (sz:=3) (es:=E) (bw:=false) (ex:=false) (ys:=[ZEB d]) (bytes:=32) (by simp [rowAt]) rfl (by rfl) (by omega) (by omega) (by simp;omega)
 unfold ZEB at a2;unfold faD faE;cases c:decide (d.Ended < 0) with
 | true=>simp only [go_sem,qy,qq,qv,qk,reduceIte,c31R0b,fP,ffr,Door.enc,NL.enc,ZNT,ZO1,ZF2,c,a1,ZNU,ZNZ,ZNN,ZO4]
 | false=>
  cases c2:d.After.l with
  | nil=>
   have z0:(((0:Nat):Int)==0)=true:=rfl;simp only [go_sem,qy,qq,qv,qk,reduceIte,z0,c31R0b,fP,ffr,Door.enc,NL.enc,ZNT,ZO1,ZF2,c,c2,a2,ZEB,ZNU,ZNZ,ZNS,ZNX,List.isEmpty_nil,ZO6]
  | cons a r=>
   have hz:(((r.length+1:Nat):Int)==0)=false:=by
    rw [beq_eq_false_iff_ne];omega
   simp only [go_sem,qy,qq,reduceIte,c31R0b,fP,ffr,Door.enc,NL.enc,ZO1,ZF2,c,c2,hz,ZNU,ZNZ,ZNS,ZNX,ZP0,ZO3,ZNL]
theorem ZGU (t:AV) (d:Door) (D E:List AV) (tl:List AObj) (h1:D.length≤1000) (h2:E.length≤1000):
 U4 rE 4 [d.enc] (fP (feL .ready t) D E tl)=some (.bool true,fP (feL .ready t) (faD d D) (faE d E) (tl++[.row 16 [d.enc]])):=by
 have h:=Ss (E:=rE) (b:=4) (args:=[d.enc]) (h:=fP (feL .ready t) D E tl) (fr:=ffr t) (ps:=[20]) (assign:=c31R0a) (body:=c31R0b)
  (fr0:=(20,d.enc)::ffr t) rfl rfl (ZGS t d (feL .ready t) D E tl) (h1:=fP (feL .ready t) D E (tl++[.row 16 [d.enc]])) rfl
  (e:=.normal) (fr2:=[]) (h2:=fP (feL .busy t) (faD d D) (faE d E) (tl++[.row 16 [d.enc]])) (ZGT t d (feL .busy t) D E tl h1 h2) rfl
 exact h
end Go.AM
namespace Go.AM
open Go
def TC' (tl:List AObj):Prop:=∀ n,X4 n tl=true
theorem ZEu:∀ (n:Nat) (a b:List AObj),X4 n (a++b)=(X4 n a&&X4 n b)
 | _,[],b=>by simp [X4]
 | n,x::a,b=>by simp [X4,ZEu n a b,ZOT]
theorem ZEN {n:Nat}:∀ {a:List AObj} {i:Nat} {x:AObj},X4 n a=true→Zj n x=true→X4 n (a.set i x)=true
 | [],_,_,h,_=>h
 | y::a,0,x,h,hx=>by
  simp only [List.set_cons_zero,X4,ZNM] at h ⊢;exact ⟨hx,h.2⟩
 | y::a,i+1,x,h,hx=>by
  simp only [List.set_cons_succ,X4,ZNM] at h ⊢;exact ⟨h.1,ZEN h.2 hx⟩
theorem ZEv (n:Nat):∀ L:List Str,Zd n (L.map encS)=true
 | []=>rfl
 | x::r=>by simp only [ZO3,Zd,ZEv n r,ZO7];rfl
theorem ZEC {h:Hp} {b:Nat} {o:AObj} (hb:b < h.length):setH h b o=h.set b o:=by
 unfold setH;rw [show Nat.blt b h.length=true by simpa using hb,cond_true]
theorem ZF3 (h:Hp) (x:AObj):(h++[x])[h.length]? = some x:=by simp
def wkS (s:List Str×List Str) (x:Str):List Str×List Str:=bif s.1.any (Z3 x) then s else (s.1++[x],s.2++[x])
theorem ZGW (s:List Str×List Str) (x:Str):(wkS s x).2.length≤s.2.length+1:=by
 unfold wkS;cases s.1.any (Z3 x)<;>simp
theorem ZF4:∀ (l:List Str) (s:List Str×List Str),(l.foldl wkS s).2.length≤s.2.length+l.length
 | [],s=>by simp
 | x::r,s=>by
  have h1:=ZF4 r (wkS s x);have h2:=ZGW s x;simp only [ZP1,ZO1];omega
def kM (K:List Str):AObj:=.map (K.map encS) (ZO K.length)
end Go.AM
namespace Go.AM
open Go
theorem ZGY (d:Door) (h:Hp):fnV rE 66 [d.enc] h=some (d.After.enc 1 encS,h):=by
 rw [Q6 (f:=66) rfl rfl];simp only [go_sem,qy,qq,c66,Door.enc,NL.enc,ZE5 (h:=h) rfl]
def grA (s:Sta):AV:=.iptr false ((stA s).cells++[.clo (.func 66) [] []])
theorem ZFT (n:Nat):decide (((n+1:Nat):Int) > 0)=true:=decide_eq_true (by omega)
theorem ZEO:∀ {n k:Nat} {l:List AObj},X4 n l=true→X4 n (l.take k)=true
 | _,0,_,_=>rfl
 | _,_+1,[],h=>h
 | n,k+1,x::r,h=>by
  simp only [X4,ZNM,ZP3] at h ⊢;exact ⟨h.1,ZEO h.2⟩
def c71L1m:ACode:=match c121L1b with | .keep _ (.seq _ (.seq (.keep _ (.block _ m)) _))=>m | _=>.skip
def c71D:ACode:=match c71L1m with | .seq d _=>d | _=>.skip
def c71Y:ACode:=match c71L1m with | .seq _ (.seq y _)=>y | _=>.skip
def c71Z:ACode:=match c71L1m with | .seq _ (.seq _ z)=>z | _=>.skip
theorem ZEP (tl L:List AObj) (x:AV) (sz:Nat):rowAt (tl++.row sz [x]::L) tl.length 1=some (sz,[x]):=by
 unfold rowAt;rw [ZOF (ZOb _),Nat.sub_self];rfl
end Go.AM
namespace Go.AM
open Go
def c71R:ACode:=match c71Z with | .seq r _=>r | _=>.skip
def c71A:ACode:=match c121L1b with | .keep _ (.seq a _)=>a | _=>.skip
def c71C:ACode:=match c121L1b with | .keep _ (.seq _ (.seq _ (.keep _ c)))=>c | _=>.skip
theorem ZFU (n:Nat):bounds (some (.int .i64 1)) none none (n+1)=some (1,n+1,none):=by
 have e:bounds (some (.int .i64 1)) none none (n+1)=bif Nat.ble 1 (n+1)&&Nat.ble (n+1) (n+1)&&VB (n+1) (n+1) none then some (1,n+1,none) else none:=rfl;rw [e,ZOg (show 1≤n+1 by omega),ZOg (ZOb (n+1))]
 rfl
theorem ZFV {h:Hp} {b g off n:Nat} {ex:Bool} {es:List AV} (hr:rowAt h b g=some (1,es)):slF h 1 (.sl b g off (n+1) ex) (some (1,n+1,none))=some (.sl b g (off+1) n ex):=by
 simp only [slF,hr,beq_self_eq_true,cond_true,ZO7,Nat.add_sub_cancel]
end Go.AM
namespace Go.AM
open Go
theorem ZEQ:∀ (l:List Str) (K L:List Str) (id:Str) (r:List Str),L=id::r→∃ r',(l.foldl wkS (K,L)).2=id::r'
 | [],_,_,id,r,h=>⟨r,h⟩
 | x::l,K,L,id,r,h=>by
  rw [ZP1];unfold wkS;cases (K,L).1.any (Z3 x) with
  | true=>exact ZEQ l K L id r h
  | false=>exact ZEQ l (K++[x]) (L++[x]) id (r++[x]) (by rw [h];rfl)
inductive Runs (s:Sta):List Str→List Str→List AV→List AV→List AV→List AV→Prop
 | stop (K:List Str) (D E:List AV):Runs s K [] D E D E
 | step (K:List Str) (id:Str) (r:List Str) (D E D' E':List AV) (k:Nat) (d:Door) (hd:s.Doors[k]? = some d) (hf:pfn rE 54 [stA s,.str id]=some (I k)) (h1:D.length≤1000) (h2:E.length≤1000)
  (h3:(id::r).length+d.After.l.length≤1000) (h:Runs s (d.After.l.foldl wkS (K,id::r)).1 (d.After.l.foldl wkS (K,id::r)).2.tail (faD d D) (faE d E) D' E'):Runs s K (id::r) D E D' E'
end Go.AM
namespace Go.AM
open Go
def h5 (t:AV) (D E:List AV):List AObj:=[.row 2 [.agg [.isl false false 1 [],.isl false false 3 []]],.row 1 D,.row 3 E,.row 2 [.agg [.sl 1 D.length 0 D.length false,.sl 2 E.length 0 E.length false]],feL .ready t]
end Go.AM
namespace Go.AM
open Go
theorem ZEw (hd tl:List AObj) (x:AObj) (bl g:Nat):rowAt (hd++x::tl) (hd.length+(bl+1)) g=rowAt tl bl g:=by
 unfold rowAt;rw [ZOF (by omega),show hd.length+(bl+1) - hd.length=bl+1 by omega,ZOu]
theorem ZHA (hd tl:List AObj) (x:AObj) (bl:Nat):(hd++x::tl)[hd.length+(bl+1)]? = tl[bl]?:=by
 rw [ZOF (by omega),show hd.length+(bl+1) - hd.length=bl+1 by omega,ZOu]
theorem ZEG (hd tl:List AObj) (x:AObj):(hd++x::tl)[hd.length]? = some x:=by
 rw [ZOF (ZOb _),Nat.sub_self];rfl
theorem ZEV (hd tl:List AObj) (x o:AObj):setH (hd++x::tl) hd.length o=hd++o::tl:=by
 unfold setH;rw [show Nat.blt hd.length (hd++x::tl).length=true by simp,cond_true,ZOZ _ _ (ZOb _),Nat.sub_self]
 rfl
theorem ZFd (hd tl:List AObj) (x o:AObj) (bl:Nat):setH (hd++x::tl) (hd.length+(bl+1)) o=hd++x::setH tl bl o:=by
 unfold setH;have e:Nat.blt (hd.length+(bl+1)) (hd++x::tl).length=Nat.blt bl tl.length:=by
  rw [ZOU];simp only [ZOL,ZNU,ZO1];omega
 rw [e];cases Nat.blt bl tl.length with
 | true=>
  rw [cond_true,cond_true,ZOZ _ _ (by omega),show hd.length+(bl+1) - hd.length=bl+1 by omega]
  rfl
 | false=>simp
theorem ZEH (hd tl:List AObj) (x:AObj):(hd++x::tl).length=hd.length+(tl.length+1):=by simp
def LVm (m:Nat) (Lv:AV) (L:List Str) (tl:List AObj):Prop:=
 ∃ bl g off ex es,Lv=.sl (m+(bl+1)) g off L.length ex∧tl[bl]? = some (.row 1 es)∧es.length=g∧off+L.length=g∧es.drop off=L.map encS
theorem ZHB {m:Nat} {Lv:AV} {L:List Str} {tl:List AObj} (h:LVm m Lv L tl) (l:List AObj):LVm m Lv L (tl++l):=by
 obtain ⟨bl,g,off,ex,es,rfl,h2,h3⟩:=h;refine ⟨bl,g,off,ex,es,rfl,?_,h3⟩;rw [ZP7 (ZOh.1 h2).1];exact h2
theorem ZHC {m:Nat} {Lv:AV} {L:List Str} {tl:List AObj} {n:Nat} (h:LVm m Lv L tl) (hb:bel (m+(n+1)) Lv=true):LVm m Lv L (tl.take n):=by
 obtain ⟨bl,g,off,ex,es,rfl,h2,h3⟩:=h;refine ⟨bl,g,off,ex,es,rfl,?_,h3⟩;have:m+(bl+1) < m+(n+1):=by simpa [bel] using hb
 rw [List.getElem?_take,if_pos (by omega)]
 exact h2
theorem ZHD (hd:List AObj) (p5:AObj) {Lv:AV} {L:List Str} {tl:List AObj} (x:Str) (hL:LVm hd.length Lv L tl) (hc:TC' tl) (hn:L.length≤1000000):
 ∃ tl',tl'.length=tl.length∧TC' tl'∧ZE9 (hd++p5::tl) 1 16 Lv (.isl false false 1 [.str x]) =
  some (.sl (hd.length+(tl.length+1)) (L.length+1) 0 (L.length+1) false,hd++p5::(tl'++[.row 1 ((L++[x]).map encS)])):=by
 obtain ⟨bl,g,off,ex,es,rfl,hb,hg,hoff,hes⟩:=hL;have hlt:bl < tl.length:=(ZOh.1 hb).1;have hbb:(hd++p5::tl)[hd.length+(bl+1)]? = some (.row 1 es):=by rw [ZHA];exact hb
 have hmap:(L++[x]).map encS=es.drop off++[.str x]:=by rw [ZNV,hes];rfl
 have hlen:(hd++p5::tl).length=hd.length+(tl.length+1):=ZEH _ _ _;cases ex with
 | true=>
  refine ⟨tl,rfl,hc,?_⟩;have hel:Q2 (hd++p5::tl) (.sl (hd.length+(bl+1)) g off L.length true)=some (es.drop off):=by
   simp only [Q2,hbb,hg,beq_self_eq_true,cond_true];rw [ZNW (by simp;omega)]
  have hz:Qq (hd++p5::tl) 1 (.sl (hd.length+(bl+1)) g off L.length true)=true:=by simp only [Qq,hbb];rfl
  have hl2:(es.drop off++[AV.str x]).length=L.length+1:=by simp;omega
  have hbd:((es.drop off).length+1) * 16≤70368744177664:=by simp;omega
  have he:Qt (hd++p5::tl) (hd++p5::tl).length false 1 16 (.sl (hd.length+(bl+1)) g off L.length true) (.isl false false 1 [.str x]) =
   some (.sl (hd++p5::tl).length (es.drop off++[AV.str x]).length 0 (es.drop off++[AV.str x]).length false,[hd.length+(bl+1)],some ((hd++p5::tl).length,.row 1 (es.drop off++[.str x]))):=by
   unfold Qt;rw [hel];dsimp only [Q2];rw [if_pos ⟨hz,rfl,Nat.zero_lt_one,by decide,hbd⟩]
   rfl
  unfold ZE9;dsimp only;rw [he,hmap,hl2,hlen];have e:setH (hd++p5::tl) (hd.length+(tl.length+1)) (.row 1 (es.drop off++[.str x]))=hd++p5::(tl++[.row 1 (es.drop off++[.str x])]):=by
   rw [←hlen,J1,ZOj];rfl
  exact congrArg some (Prod.ext rfl e)
 | false=>
  refine ⟨tl.set bl .gone,by simp,fun n=>ZEN (hc n) rfl,?_⟩
  have hz:Qq (hd++p5::tl) 1 (.isl false false 1 [.str x])=true:=rfl;have hcond:((es.length==g&&(1==1))&&((off+L.length==g)&&(Qq (hd++p5::tl) 1 (.isl false false 1 [.str x])&&(([AV.str x]:List AV).all (fits 1)&&(Nat.blt 0 ([AV.str x]:List AV).length&&(Nat.blt 0 1&&(Nat.blt 0 16&&Nat.ble ((L.length+([AV.str x]:List AV).length) * 16) 70368744177664)))))))=true:=by
   simp only [hg,hoff,hz,beq_self_eq_true,ZNX,ZO7];have:(L.length+([AV.str x]:List AV).length) * 16≤70368744177664:=by simp;omega
   have e2:Nat.ble ((L.length+([AV.str x]:List AV).length) * 16) 70368744177664=true:=ZOg this;rw [e2];rfl
  unfold ZE9;simp only [hbb,Q2,hcond,cond_true];rw [ZFd,ZEC hlt,hmap,hlen,ZOj];rfl
theorem ZEJ (hd:List AObj) (x:AObj) (tl:List AObj) (fr:Fr):Xq (hd.length+(tl.length+1)) fr (hd++x::tl)=hd++x::tl:=ZE5 (by simp)
theorem ZFe (n g o k:Nat) (ex:Bool) (a b c v q r:AV) (h:Hp):Xq n [(0,a),(2,b),(4,c),(5,.sl n g o k ex),(37,v),(38,q),(39,r)] h=h:=by
 have e:Zd n ([(0,a),(2,b),(4,c),(5,AV.sl n g o k ex),(37,v),(38,q),(39,r)].map (fun (p:Nat×AV)=>p.2))=false:=by
  simp [Zd,bel]
 unfold Xq;rw [e];rfl
def ZEl (hd:List AObj) (v:AV) (A:List Str):Prop:=
 (∀ x tl,lnV (hd++x::tl) 1 v=some (I A.length))∧∀ (i:Nat) (a:Str),A[i]? = some a→∃ p,(∀ x tl,iaV (hd++x::tl) 1 v (I i)=some p)∧∀ x tl,ldV (hd++x::tl) none p=some (.str a)
theorem ZHE (hd:List AObj) (ex:Bool) (A:List Str):ZEl hd (.isl false ex 1 (A.map encS)) A:=by
 refine ⟨fun x tl=>by rw [AX,ZNL],fun i a h=>⟨.iptr false [.str a],fun x tl=>?_,fun x tl=>rfl⟩⟩
 have hg:=Z6 (f:=encS) h;rw [AK];simp only [go_sem,hg,encS]
theorem ZHG (hd:List AObj) (Y G v:AV) (l:List Str) (hv:ZEl hd v l) (s0:List Str×List Str) (Lv0:AV) (tl0:List AObj) (hL0:LVm hd.length Lv0 s0.2 tl0) (hc0:TC' tl0) (hn:s0.2.length+l.length≤1000000):
 ∃ fr' Lv tl,Zg rE [0,2,4,5,37,38,39] c121L0b [(0,Y),(2,G),(4,.mp hd.length),(5,Lv0),(37,v),(38,I l.length),(39,I 0)] (hd++kM s0.1::tl0) =
  some (.exit 2,fr',hd++kM (l.foldl wkS s0).1::tl)∧LVm hd.length Lv (l.foldl wkS s0).2 tl∧TC' tl∧get fr' 0=Y∧get fr' 2=G∧get fr' 4=.mp hd.length∧get fr' 5=Lv:=by
 obtain ⟨e,fr',h',L,hQ⟩:=Z9Y (E:=rE) (live:=[0,2,4,5,37,38,39]) (b:=c121L0b) l.length
  (fun i fr h=>∃ Lv tl,fr=[(0,Y),(2,G),(4,.mp hd.length),(5,Lv),(37,v),(38,I l.length),(39,I i)]∧h=hd++kM ((l.take i).foldl wkS s0).1::tl∧LVm hd.length Lv ((l.take i).foldl wkS s0).2 tl∧TC' tl)
  (fun e fr h=>e=.exit 2∧∃ Lv tl,h=hd++kM (l.foldl wkS s0).1::tl∧LVm hd.length Lv (l.foldl wkS s0).2 tl∧TC' tl∧get fr 0=Y∧get fr 2=G∧get fr 4=.mp hd.length∧get fr 5=Lv)
  (fun i fr h m=>by obtain ⟨Lv,tl,rfl,_⟩:=m;rfl)
  (fun i fr h hi m=>by
   obtain ⟨Lv,tl,rfl,rfl,hL,hc⟩:=m;refine .inl ?_;obtain ⟨x,hx⟩:∃ x,l[i]? = some x:=⟨_,ZNQ hi⟩;obtain ⟨p,hg1,hg2⟩:=hv.2 i x hx;have hi':=Zh hi;have hwr:=Zx (n:=i) (by omega)
   have hf:(l.take (i+1)).foldl wkS s0=wkS ((l.take i).foldl wkS s0) x:=Us wkS s0 hx;have hlen:=ZF4 (l.take i) s0;have hle:(l.take i).length≤l.length:=by simp;omega
   rw [hf];generalize (l.take i).foldl wkS s0=s at hL hlen ⊢;obtain ⟨K,L⟩:=s;have hq:=fun (tl:List AObj)=>H5 (enc:=encS) (eq:=Z3) Z1Y K x (h:=hd++.map (K.map encS) (ZO K.length)::tl) (b:=hd.length) (ZEG _ _ _)
   have hp:=fun (tl:List AObj)=>Ur (enc:=encS) (eq:=Z3) Z1Y K x (h:=hd++.map (K.map encS) (ZO K.length)::tl) (b:=hd.length) (ZEG _ _ _)
   have hlen':L.length≤s0.2.length+(l.take i).length:=hlen;have hL:LVm hd.length Lv L tl:=hL;unfold encS at hq hp;cases c:K.any (Z3 x) with
   | true=>
    have hw:wkS (K,L) x=(K,L):=by unfold wkS;rw [c];rfl
    rw [hw];unfold kM encS;refine ⟨_,_,by simp only [go_sem,qy,reduceIte,c121L0b,hg1,hg2,hi',hwr,hq,c,ZEJ,ZNN,ZO1,ZNU]<;>rfl,Lv,tl,?_,rfl,hL,hc⟩
    simp only [go_sem,qy]
   | false=>
    obtain ⟨tl',hl',hc',ha⟩:=ZHD hd (.map ((Qi Z3 K x).map encS) (ZO (Qi Z3 K x).length)) x hL hc (by omega)
    unfold encS at ha;have hak:Qi Z3 K x=K++[x]:=by unfold Qi;rw [c];rfl
    have hirr:decide (hd.length+(tl.length+1) < hd.length+(tl.length+1))=false:=by simp
    have e1:(K++[x]).length=K.length+1:=by simp
    rw [hak,e1] at ha;have hw:wkS (K,L) x=(K++[x],L++[x]):=by unfold wkS;rw [c];rfl
    rw [hw];unfold kM encS;rw [e1];refine ⟨_,_,by simp only [go_sem,qy,qq,qv,reduceIte,c121L0b,hg1,hg2,hi',hwr,hq,hp,c,hak,ha,ZEV,ZEJ,ZFe,ZNS,ZO1,ZNU]<;>rfl,.sl (hd.length+(tl.length+1)) (L.length+1) 0 (L.length+1) false,_,?_,rfl,?_,?_⟩
    ·simp only [go_sem,qy]
    ·refine ⟨tl.length,L.length+1,0,false,(L++[x]).map encS,by simp,by rw [←hl'];exact ZF3 _ _,by simp,by simp,by simp⟩
    ·intro n;rw [ZEu,hc' n];show (true&&(Zj n (.row 1 ((L++[x]).map encS))&&true))=true
     simp only [Zj,ZEv,ZO7])
  (fun fr h m=>by
   obtain ⟨Lv,tl,rfl,rfl,hL,hc⟩:=m;rw [ZO0] at hL ⊢;refine ⟨.exit 2,_,_,by simp only [go_sem,qy,reduceIte,c121L0b,ZG,ZEJ,kM,ZO1,ZNU]<;>rfl,by simp,rfl,Lv,tl,rfl,hL,hc,?_⟩
   refine ⟨?_,?_,?_,?_⟩<;>simp only [go_sem,qy])
  l.length 0 [(0,Y),(2,G),(4,.mp hd.length),(5,Lv0),(37,v),(38,I l.length),(39,I 0)] (hd++kM s0.1::tl0) (by omega) ⟨Lv0,tl0,rfl,rfl,hL0,hc0⟩
 obtain ⟨rfl,Lv,tl,rfl,h1,h2,h3,h4,h5,h6⟩:=hQ;exact ⟨fr',Lv,tl,L,h1,h2,h3,h4,h5,h6⟩
end Go.AM
namespace Go.AM
open Go
structure GRdz (hd:List AObj) (G:AV) (s:Sta) (FC p0 p3 p7:AV):Prop where
 f0:∀ x tl,faV (hd++x::tl) 0 G=some p0
 f3:∀ x tl,faV (hd++x::tl) 3 p0=some p3
 l3:∀ x tl,ldV (hd++x::tl) none p3=some (.isl false false 16 (s.Doors.map Door.enc))
 l0:∀ x tl,ldV (hd++x::tl) (some 7) p0=some (stA s)
 f7:∀ x tl,faV (hd++x::tl) 7 G=some p7
 l7:∀ x tl,ldV (hd++x::tl) none p7=some FC
 t:∀ n,hd.length≤n→(Zs G).contains n=false∧(Zs p0).contains n=false∧(Zs p3).contains n=false
inductive RunsG {σ:Type} (s:Sta) (aft:Door→List Str) (f:Door→σ→σ) (ok:σ→Prop):List Str→List Str→σ→σ→Prop
 | stop (K:List Str) (x:σ):RunsG s aft f ok K [] x x
 | step (K:List Str) (id:Str) (r:List Str) (x x':σ) (k:Nat) (d:Door) (hd:s.Doors[k]? = some d) (hf:pfn rE 54 [stA s,.str id]=some (I k)) (hx:ok x)
  (h3:(id::r).length+(aft d).length≤1000000) (h:RunsG s aft f ok ((aft d).foldl wkS (K,id::r)).1 ((aft d).foldl wkS (K,id::r)).2.tail (f d x) x'):RunsG s aft f ok K (id::r) x x'
def wfp (y m:Nat) (G Lv:AV):Fr:=[(0,.yld y),(2,G),(4,.mp m),(5,Lv)]
theorem ZG7 {fr:Fr} {Y G Lv:AV} {L:List Str} (hd:List AObj) (p5:AObj) {tl:List AObj} (n:Nat) (e:AExit) (h0:get fr 0=Y) (h2:get fr 2=G) (h4:get fr 4=.mp hd.length) (h5:get fr 5=Lv) (hL:LVm hd.length Lv L tl) (hc:TC' tl):
 ∃ tl',kp [0,2,4,5] (hd.length+(n+1)) (some (e,fr,hd++p5::tl))=some (e,[(0,Y),(2,G),(4,.mp hd.length),(5,Lv)],hd++p5::tl')∧LVm hd.length Lv L tl'∧TC' tl':=by
 have hr:Z2 [0,2,4,5] fr=[(0,Y),(2,G),(4,.mp hd.length),(5,Lv)]:=by
  show [(0,get fr 0),(2,get fr 2),(4,get fr 4),(5,get fr 5)]=_
  rw [h0,h2,h4,h5]
 have ht:(hd++p5::tl).take (hd.length+(n+1))=hd++p5::tl.take n:=by
  rw [ZOP,ZNW (by omega),show hd.length+(n+1) - hd.length=n+1 by omega]
  rfl
 rw [Sd,hr];unfold Xq;cases c:Zd (hd.length+(n+1)) (List.map (·.2) [(0,Y),(2,G),(4,AV.mp hd.length),(5,Lv)])&&X4 (hd.length+(n+1)) ((hd++p5::tl).take (hd.length+(n+1))) with
 | false=>exact ⟨tl,rfl,hL,hc⟩
 | true=>
  refine ⟨tl.take n,by rw [cond_true,ht],ZHC hL ?_,fun m=>ZEO (hc m)⟩
  simp only [List.map,Zd,ZNM,ZO7] at c;exact c.1.2.2.2
theorem ZHH (n i o g:Nat) (a b c e:AV) (h:Hp):Xq n [(0,a),(2,b),(4,c),(5,e),(6,.ptr n i o g)] h=h:=by
 have e:Zd n ([(0,a),(2,b),(4,c),(5,e),(6,AV.ptr n i o g)].map (fun (p:Nat×AV)=>p.2))=false:=by
  have hn:Nat.blt n n=false:=by rw [ZPa];simp [ZOL]
  simp [Zd,bel,hn]
 unfold Xq;rw [e];rfl
section
variable (y:Nat) (s:Sta) (FC G p0 p3 p7:AV) (hd hd':List AObj) (K:List Str) (Lv:AV) (id:Str) (r:List Str) (tl L:List AObj) (d:Door)
theorem pd (hG:GRdz hd G s FC p0 p3 p7) (hL:LVm hd.length Lv (id::r) tl) (k:Nat) (hk':s.Doors[k]? = some d) (hf:pfn rE 54 [stA s,.str id]=some (I k)):
 Zb rE c71D (wfp y hd.length G Lv++[(16,.bool true)]) (hd++kM K::tl)=some (.normal,[(0,.yld y),(2,G),(4,.mp hd.length),(5,Lv),(6,.ptr (hd.length+(tl.length+1)) 0 0 1)],hd++kM K::(tl++[.row 16 [d.enc]])):=by
 obtain ⟨bl,g,off,ex,es,rfl,hb,hg1,hg2,hes⟩:=hL;have hlt:bl < tl.length:=(ZOh.1 hb).1;have hr:rowAt tl bl g=some (1,es):=by unfold rowAt;rw [hb];simp only [hg1,beq_self_eq_true,cond_true]
 have hes0:es[off]? = some (.str id):=by
  have:=congrArg List.head? hes;rw [List.head?_drop] at this;exact this
 have hg:=Z6 (f:=Door.enc) hk';have hk:(0≤(k:Int))=True:=by simp
 have hk2:((k:Int)).toNat=k:=Int.toNat_natCast k;have z0:((0:Int)).toNat=0:=rfl;have hlen:(id::r).length=r.length+1:=rfl;have hi0:iaP (hd.length+(bl+1)) g off 1 0 (r.length+1) (some (1,es))=some (.ptr (hd.length+(bl+1)) off 0 g):=VT _ _ _ _ _ _ _ ⟨Int.le_refl _,by omega⟩
 have hne:(hd.length+(tl.length+1)==hd.length+(bl+1))=false:=by rw [beq_eq_false_iff_ne];omega
 have hirr:decide (hd.length+(tl.length+1) < hd.length+(tl.length+1))=false:=by simp
 have l0:=hG.l0;obtain ⟨tG1,tG2,tG3⟩:=hG.t (hd.length+(tl.length+1)) (by omega)
 simp only [Zs] at tG1 tG2 tG3;simp only [stA] at hf l0;simp only [Door.enc,NL.enc] at hg;simp only [go_sem,qy,qq,qk,c71D,c71L1m,c121L1b,wfp,kM,hG.f0,hG.f3,hG.l3,l0,tG1,tG2,tG3,ZNS,ZOi,hne,Door.enc,NL.enc,ZEw,hr,ZO1,ZNU,ZHH,hf,hg,hi0,hes0,ZFd,ZEp,ZNT,ZOj]
theorem ZHI (hd:List AObj) (p5 x y:AObj) (tl:List AObj) (b:Bool):trimB (hd.length+(tl.length+1+1)) (hd++p5::(tl++[x,y])) b=hd++p5::(tl++x::bif b then [] else [y]):=by
 unfold trimB;cases b with
 | false=>rfl
 | true=>
  simp only [cond_true];rw [ZOP,ZNW (by omega),show hd.length+(tl.length+1+1) - hd.length=tl.length+1+1 by omega,ZP3,ZOP,ZNW (by omega)]
  simp
theorem ZHJ (hd:List AObj) (p5 x y:AObj) (tl:List AObj) (fr:Fr):∃ b:Bool,Xq (hd.length+(tl.length+1+1)) fr (hd++p5::(tl++[x,y]))=hd++p5::(tl++x::bif b then [] else [y]):=by
 refine ⟨Zd (hd.length+(tl.length+1+1)) (fr.map (·.2))&&X4 (hd.length+(tl.length+1+1)) ((hd++p5::(tl++[x,y])).take (hd.length+(tl.length+1+1))),?_⟩;have:=ZHI hd p5 x y tl (Zd (hd.length+(tl.length+1+1)) (fr.map (·.2))&&X4 (hd.length+(tl.length+1+1)) ((hd++p5::(tl++[x,y])).take (hd.length+(tl.length+1+1))));exact this
theorem ZG8 (hd tl L:List AObj) (p5:AObj) (x:AV) (sz:Nat):rowAt (hd++p5::(tl++.row sz [x]::L)) (hd.length+(tl.length+1)) 1=some (sz,[x]):=by rw [ZEw,ZEP]
theorem py (hl:hd'.length=hd.length) (hy:U4 rE y [d.enc] (hd++kM K::(tl++[.row 16 [d.enc]]))=some (.bool true,hd'++kM K::(tl++[.row 16 [d.enc],.row 16 [d.enc]]))):
 ∃ b:Bool,Zb rE c71Y [(0,.yld y),(2,G),(4,.mp hd.length),(5,Lv),(6,.ptr (hd.length+(tl.length+1)) 0 0 1)] (hd++kM K::(tl++[.row 16 [d.enc]])) =
  some (.normal,[(0,.yld y),(2,G),(4,.mp hd.length),(5,Lv),(6,.ptr (hd.length+(tl.length+1)) 0 0 1),(33,.bool false)],hd'++kM K::(tl++.row 16 [d.enc]::bif b then [] else [.row 16 [d.enc]])):=by
 obtain ⟨b,ht⟩:=ZHJ hd' (kM K) (.row 16 [d.enc]) (.row 16 [d.enc]) tl [(0,.yld y),(2,G),(4,.mp hd.length),(5,Lv),(6,.ptr (hd.length+(tl.length+1)) 0 0 1),(33,.bool false)];rw [hl] at ht;simp only [Door.enc,NL.enc,kM] at hy ht;refine ⟨b,?_⟩;simp only [go_sem,qy,qq,qk,S3,c71Y,c71L1m,c121L1b,kM,Door.enc,NL.enc,ZO1,ZNU,ZNZ,ZG8,hy,ZNN,ht]
theorem ZHL (hd:List AObj) (p5 x:AObj) (tl L:List AObj) (fr:Fr):Xq (hd.length+(tl.length+(L.length+1)+1)) fr (hd++p5::(tl++x::L))=hd++p5::(tl++x::L):=ZE5 (by simp)
theorem pr (hG:GRdz hd G s FC p0 p3 p7) (v:AV) (A:List Str) (hv:ZEl hd v A) (hA:Xy rE false FC [d.enc] (hd++kM K::(tl++.row 16 [d.enc]::L))=some (v,hd++kM K::(tl++.row 16 [d.enc]::L))):
 Zb rE c71R [(0,.yld y),(2,G),(4,.mp hd.length),(5,Lv),(6,.ptr (hd.length+(tl.length+1)) 0 0 1),(33,.bool false)] (hd++kM K::(tl++.row 16 [d.enc]::L)) =
  some (.normal,[(0,.yld y),(2,G),(4,.mp hd.length),(5,Lv),(37,v),(38,I A.length),(39,I 0)],hd++kM K::(tl++.row 16 [d.enc]::L)):=by
 have hln:=hv.1;simp only [Door.enc,NL.enc,kM] at hA;simp only [go_sem,qy,qq,qk,c71R,c71Z,c71L1m,c121L1b,kM,hG.f7,hG.l7,Door.enc,NL.enc,ZO1,ZNU,ZG8,hA,hln,ZHL]
theorem pA (hL:LVm hd.length Lv (id::r) tl):
 Zb rE c71A (wfp y hd.length G Lv) (hd++kM K::tl)=some (.normal,wfp y hd.length G Lv++[(16,.bool true)],hd++kM K::tl):=by
 obtain ⟨bl,g,off,ex,es,rfl,hb,hg1,hg2,hes⟩:=hL;have hr:rowAt tl bl g=some (1,es):=by unfold rowAt;rw [hb];simp only [hg1,beq_self_eq_true,cond_true]
 have hlen:(id::r).length=r.length+1:=rfl;simp only [go_sem,qy,reduceIte,c71A,c121L1b,wfp,kM,hlen,ZEw,hr,ZO1,ZNU,ZFT,ZEJ,ZNT,ZNR]
theorem pE (hL:LVm hd.length Lv [] tl):
 Zb rE c71A (wfp y hd.length G Lv) (hd++kM K::tl)=some (.exit 0,wfp y hd.length G Lv++[(16,.bool false)],hd++kM K::tl):=by
 obtain ⟨bl,g,off,ex,es,rfl,hb,hg1,hg2,hes⟩:=hL;have hr:rowAt tl bl g=some (1,es):=by unfold rowAt;rw [hb];simp only [hg1,beq_self_eq_true,cond_true]
 have hlen:([]:List Str).length=0:=rfl;have h0:decide (((0:Nat):Int) > 0)=false:=rfl;simp only [go_sem,qy,reduceIte,c71A,c121L1b,wfp,kM,hlen,ZEw,hr,ZO1,ZNU,h0,ZEJ,ZNT,ZNR]
theorem pC (hL:LVm hd.length Lv (id::r) tl):
 ∃ fr Lv',Zb rE c71C (wfp y hd.length G Lv) (hd++kM K::tl)=some (.normal,fr,hd++kM K::tl)∧get fr 0=.yld y∧get fr 2=G∧get fr 4=.mp hd.length∧get fr 5=Lv'∧LVm hd.length Lv' r tl:=by
 obtain ⟨bl,g,off,ex,es,rfl,hb,hg1,hg2,hes⟩:=hL;have hlen:(id::r).length=r.length+1:=rfl;have hr:rowAt tl bl g=some (1,es):=by unfold rowAt;rw [hb];simp only [hg1,beq_self_eq_true,cond_true]
 refine ⟨[(5,.sl (hd.length+(bl+1)) g (off+1) r.length ex),(18,.sl (hd.length+(bl+1)) g (off+1) r.length ex),(17,.sl (hd.length+(bl+1)) g off (r.length+1) ex)]++wfp y hd.length G (.sl (hd.length+(bl+1)) g off (r.length+1) ex),.sl (hd.length+(bl+1)) g (off+1) r.length ex,?_,rfl,rfl,rfl,rfl,?_⟩
 ·have hs:=ZFV (h:=hd++.map (K.map encS) (ZO K.length)::tl) (b:=hd.length+(bl+1)) (off:=off) (n:=r.length) (ex:=ex) (by rw [ZEw];exact hr)
  simp only [go_sem,qy,c71C,c121L1b,wfp,kM,hlen,ZFU,hs,ZNT,ZNR]
 ·refine ⟨bl,g,off+1,ex,es,rfl,hb,hg1,by simp at hg2;omega,?_⟩
  have:=congrArg List.tail hes
  rwa [List.tail_drop] at this
theorem ZHM (hG:GRdz hd G s FC p0 p3 p7) (hG':GRdz hd' G s FC p0 p3 p7) (hl:hd'.length=hd.length) (hL:LVm hd.length Lv (id::r) tl) (hc:TC' tl) (k:Nat) (hk:s.Doors[k]? = some d) (hf:pfn rE 54 [stA s,.str id]=some (I k)) (A:List Str) (h3:(id::r).length+A.length≤1000000)
 (hy:U4 rE y [d.enc] (hd++kM K::(tl++[.row 16 [d.enc]]))=some (.bool true,hd'++kM K::(tl++[.row 16 [d.enc],.row 16 [d.enc]])))
 (hA:∀ L,∃ v,Xy rE false FC [d.enc] (hd'++kM K::(tl++.row 16 [d.enc]::L))=some (v,hd'++kM K::(tl++.row 16 [d.enc]::L))∧ZEl hd' v A):
 ∃ Lv' tl',Zb rE c121L1b (wfp y hd.length G Lv) (hd++kM K::tl)=some (.normal,wfp y hd.length G Lv',hd'++kM (A.foldl wkS (K,id::r)).1::tl')∧
  LVm hd.length Lv' (A.foldl wkS (K,id::r)).2.tail tl'∧TC' tl':=by
 obtain ⟨b,hy'⟩:=py y G hd hd' K Lv tl d hl hy;have hT:TC' (tl++.row 16 [d.enc]::bif b then [] else [.row 16 [d.enc]]):=fun n=>by
  have e:Zj n (.row 16 [d.enc])=true:=by simp only [Zj,Zd,Door.enc,NL.enc,bel,ZOi]
  rw [ZEu,hc n];cases b<;>simp only [cond_true,cond_false,X4,e,ZOi]
 generalize (bif b then [] else [AObj.row 16 [d.enc]])=X at hy' hT;obtain ⟨v,hA,hv⟩:=hA X;have hin:=ZHG hd' (.yld y) (G) v A hv (K,id::r) Lv (tl++.row 16 [d.enc]::X) (by rw [hl];exact ZHB hL _) hT h3
 have hr:=pr y s FC G p0 p3 p7 hd' K Lv tl X d hG' v A hv hA;have kq:=fun {fr:Fr} {Y G Lv:AV} {L:List Str}=>@ZG7 fr Y G Lv L hd'
 have cq:=fun (K:List Str) (Lv:AV) (id:Str) (r:List Str) (tl:List AObj)=>pC y G hd' K Lv id r tl
 rw [hl] at hin hr;simp only [hl] at kq cq;obtain ⟨fr',Lv0,tl0,hin,z1,z2,z3,z4,z5,z6⟩:=hin;obtain ⟨tl1,hk1,l1,c1⟩:=kq (kM (A.foldl wkS (K,id::r)).1) (tl++.row 16 [d.enc]::X).length .normal z3 z4 z5 z6 z1 z2;have hlen1:(hd'++kM K::(tl++.row 16 [d.enc]::X)).length=hd.length+((tl++.row 16 [d.enc]::X).length+1):=by rw [ZEH,hl]
 have e1:Zb rE c71L1m (wfp y hd.length G Lv++[(16,.bool true)]) (hd++kM K::tl)=some (.normal,wfp y hd.length G Lv0,hd'++kM (A.foldl wkS (K,id::r)).1::tl1):=by
  show Zb rE (.seq c71D (.seq c71Y (.seq c71R (.keep [0,2,4,5] (.block 2 c121L0))))) _ _=_
  rw [SK,pd y s FC G p0 p3 p7 hd K Lv id r tl d hG hL k hk hf,SH,SK,hy',SH,SK,hr,SH,Sm,Sl];show kp _ _ (blk 2 (Zg rE [0,2,4,5,37,38,39] c121L0b _ _))=_
  rw [hin,hlen1];exact hk1
 obtain ⟨r',hne⟩:=ZEQ A K (id::r) id r rfl;generalize A.foldl wkS (K,id::r)=q at hne e1 l1 ⊢;obtain ⟨K',L'⟩:=q;have hne:L'=id::r':=hne;subst hne;have l1:LVm hd.length Lv0 (id::r') tl1:=l1;obtain ⟨tl2,e2,l2,c2⟩:=kq (Y:=.yld y) (G:=G) (Lv:=Lv0) (fr:=wfp y hd.length G Lv0) (kM K') tl.length .normal rfl rfl rfl rfl l1 c1;obtain ⟨fr3,Lv3,e3,g0,g2,g4,g5,l3⟩:=cq K' Lv0 id r' tl2 l2;obtain ⟨tl4,e4,l4,c5004⟩:=kq (Y:=.yld y) (G:=G) (Lv:=Lv3) (fr:=fr3) (kM K') tl2.length .normal g0 g2 g4 g5 l3 c2;obtain ⟨tl5,e5,l5,c5005⟩:=kq (Y:=.yld y) (G:=G) (Lv:=Lv3) (fr:=wfp y hd.length G Lv3) (kM K') tl.length .normal rfl rfl rfl rfl l4 c5004;refine ⟨Lv3,tl5,?_,l5,c5005⟩;show Zb rE (.keep [0,2,4,5] (.seq c71A (.seq (.keep [0,2,4,5] (.block 1 c71L1m)) (.keep [0,2,4,5] c71C)))) _ _=_
 rw [Sm,SK,pA y G hd K Lv id r tl hL,SH,SK,Sm,Sl,e1];show kp _ _ (sq rE _ (kp _ _ (some (.normal,wfp y hd.length G Lv0,_))))=_
 rw [ZEH,e2,SH,Sm];rw [show Zb rE c71C [(0,.yld y),(2,G),(4,.mp hd.length),(5,Lv0)] (hd'++kM K'::tl2)=_ from e3,ZEH,hl,e4]
 exact e5
end
theorem ZHN {σ:Type} {s:Sta} {aft:Door→List Str} {f:Door→σ→σ} {ok:σ→Prop} (FC G p0 p3 p7:AV) (y m:Nat) (H:σ→List AObj) (hG:∀ x,GRdz (H x) G s FC p0 p3 p7) (hH:∀ x,(H x).length=m)
 (hy:∀ (d:Door) (x:σ) (K:List Str) (tl:List AObj),d∈s.Doors→ok x→U4 rE y [d.enc] (H x++kM K::(tl++[.row 16 [d.enc]]))=some (.bool true,H (f d x)++kM K::(tl++[.row 16 [d.enc],.row 16 [d.enc]])))
 (hA:∀ (d:Door) (x:σ) (K:List Str) (tl:List AObj),d∈s.Doors→∃ v,Xy rE false FC [d.enc] (H x++kM K::tl)=some (v,H x++kM K::tl)∧ZEl (H x) v (aft d))
 {K L:List Str} {x x':σ} (R:RunsG s aft f ok K L x x'):∀ (Lv:AV) (tl:List AObj),LVm m Lv L tl→TC' tl→
 ∃ K' Lv' tl',Zg rE [0,2,4,5] c121L1b (wfp y m G Lv) (H x++kM K::tl)=some (.exit 0,wfp y m G Lv',H x'++kM K'::tl'):=by
 induction R with
 | stop K x=>
  intro Lv tl hL hc;have hm:=hH x;subst hm;obtain ⟨tl2,e2,l2,c2⟩:=ZG7 (Y:=.yld y) (G:=G) (Lv:=Lv) (fr:=wfp y (H x).length G Lv++[(16,.bool false)]) (H x) (kM K) tl.length (.exit 0) rfl rfl rfl rfl hL hc;refine ⟨K,Lv,tl2,Q7 rfl ?_ (fun h=>by cases h)⟩
  show Zb rE (.keep [0,2,4,5] (.seq c71A (.seq (.keep [0,2,4,5] (.block 1 c71L1m)) (.keep [0,2,4,5] c71C)))) _ _=_
  rw [Sm,SK,pE y G (H x) K Lv tl hL,SI,ZEH];exact e2
 | step K id r x x' k d hd hf hx h3 h ih=>
  intro Lv tl hL hc;have hm:=ZOa hd;have hl:(H (f d x)).length=(H x).length:=by rw [hH,hH]
  have hm':=hH x;obtain ⟨Lv1,tl1,e1,l1,c1⟩:=ZHM y s FC G p0 p3 p7 (H x) (H (f d x)) K Lv id r tl d (hG x) (hG (f d x)) hl (by rw [hm'];exact hL) hc k hd hf (aft d) h3 (hy d x K tl hm hx) (fun L=>hA d (f d x) K _ hm)
  rw [hm'] at e1 l1;obtain ⟨K',Lv',tl',e⟩:=ih Lv1 tl1 l1 c1;refine ⟨K',Lv',tl',?_⟩;rw [Yt rfl e1];exact e
end Go.AM
namespace Go.AM
open Go
theorem ZGf (hd Z:List AObj) (n:Nat) (fr:Fr) (hn:hd.length≤n):∃ tl,Xq n fr (hd++Z)=hd++tl:=by
 unfold Xq;cases Zd n (fr.map (·.2))&&X4 n ((hd++Z).take n) with
 | false=>exact ⟨Z,rfl⟩
 | true=>exact ⟨Z.take (n - hd.length),by rw [cond_true,ZOP,ZNW hn]⟩
theorem ZI8 {σ:Type} {s:Sta} {aft:Door→List Str} {f:Door→σ→σ} {ok:σ→Prop} (FC G p0 p3 p7:AV) (y m:Nat) (H:σ→List AObj) (hG:∀ x,GRdz (H x) G s FC p0 p3 p7) (hH:∀ x,(H x).length=m)
 (hy:∀ (d:Door) (x:σ) (K:List Str) (tl:List AObj),d∈s.Doors→ok x→U4 rE y [d.enc] (H x++kM K::(tl++[.row 16 [d.enc]]))=some (.bool true,H (f d x)++kM K::(tl++[.row 16 [d.enc],.row 16 [d.enc]])))
 (hA:∀ (d:Door) (x:σ) (K:List Str) (tl:List AObj),d∈s.Doors→∃ v,Xy rE false FC [d.enc] (H x++kM K::tl)=some (v,H x++kM K::tl)∧ZEl (H x) v (aft d))
 (id:Str) {x x':σ} (R:RunsG s aft f ok [id] [id] x x'):
 ∃ fr tl,Zb rE c121 (QP 0 ([]++[.yld y]++[.iptr false [.str id],G])) (H x)=some (.normal,fr,H x'++tl):=by
 obtain ⟨K',Lv',tl',hl⟩:=ZHN FC G p0 p3 p7 y m H hG hH hy hA R (.sl (m+(0+1)) 1 0 1 true) [.row 1 [.str id]] ⟨0,1,0,true,[.str id],rfl,rfl,rfl,rfl,rfl⟩ (fun n=>rfl)
 have hm:=hH x;have hm':=hH x';have hp:=Ur (enc:=encS) (eq:=Z3) Z1Y [] id (h:=H x++[.map [] []]) (b:=(H x).length) (ZEG _ _ _);have hk:Qi Z3 [] id=[id]:=rfl;rw [hk] at hp;have hrep:List.replicate 1 (AV.bool true)=[.bool true]:=rfl;have hrep0:List.replicate 0 (AV.bool true)=[]:=rfl;rw [ZEV] at hp;simp only [encS,List.map,ZO,ZO1,ZNZ,ZOe,hrep] at hp;simp only [wfp,kM,encS,List.map,ZO,ZO1,ZNZ,ZOe,hrep] at hl;subst hm;have f1:∀ a b c h,Xq (H x).length [(0,a),(1,b),(2,c),(4,.mp (H x).length)] h=h:=fun a b c h=>by
  have hn:Nat.blt (H x).length (H x).length=false:=by rw [ZPa];simp [ZOL]
  have e:Zd (H x).length ([(0,a),(1,b),(2,c),(4,AV.mp (H x).length)].map (fun (p:Nat×AV)=>p.2))=false:=by simp [Zd,bel,hn]
  unfold Xq;rw [e];rfl
 have f2:∀ n a b c g o k ex h,Xq n [(0,a),(2,b),(4,c),(5,.sl n g o k ex)] h=h:=fun n a b c g o k ex h=>by
  have hn:Nat.blt n n=false:=by rw [ZPa];simp [ZOL]
  have e:Zd n ([(0,a),(2,b),(4,c),(5,AV.sl n g o k ex)].map (fun (p:Nat×AV)=>p.2))=false:=by simp [Zd,bel,hn]
  unfold Xq;rw [e];rfl
 have l1:∀ o:AObj,(H x++[o]).length=(H x).length+1:=fun o=>by simp
 have l2:∀ o p:AObj,(H x++[o]++[p]).length=(H x).length+2:=fun o p=>by simp
 have l3:H x++[AObj.map [.str id] [.bool true]]++[.row 1 [.str id]]=H x++[AObj.map [.str id] [.bool true],.row 1 [.str id]]:=by simp
 have hl:Zg rE [0,2,4,5] c121L1b _ (H x++[AObj.map [.str id] [.bool true],.row 1 [.str id]])=_:=hl;simp only [go_sem,qy,qq,qv,c121,c121L1,hp,f1,f2,l1,l3,hl];obtain ⟨tl,ht⟩:=ZGf (H x') (AObj.map (K'.map encS) (List.replicate K'.length (.bool true))::tl') ((H x).length+2) [] (by omega)
 exact ⟨[],tl,by rw [ht]⟩
end Go.AM
namespace Go.AM
open Go
theorem ZL5 {s:Sta} {K L:List Str} {D E D' E':List AV} (H:Runs s K L D E D' E'):RunsG s (fun d=>d.After.l) (fun d (q:List AV×List AV)=>(faD d q.1,faE d q.2)) (fun q=>q.1.length≤1000∧q.2.length≤1000) K L (D,E) (D',E'):=by
 induction H with
 | stop K D E=>exact RunsG.stop _ _
 | step K id r D E D' E' k d hd hf h1 h2 h3 h ih=>exact RunsG.step K id r _ _ k d hd hf ⟨h1,h2⟩ (by omega) ih
theorem ZHd (s:Sta) (t:AV) (id:Str) (D' E':List AV) (H:Runs s [id] [id] [] [] D' E'):
 ∃ fr tl,Zb rE c121 (QP 0 ([]++[.yld 4]++[.iptr false [.str id],grA s])) (h5 t [] [])=some (.normal,fr,h5 t D' E'++tl):=
 ZI8 (AV.clo (.func 66) [] []) (grA s) (.iptr false ((stA s).cells++[AV.clo (.func 66) [] []])) (.iptr false (((stA s).cells++[AV.clo (.func 66) [] []]).drop 3)) (.iptr false [AV.clo (.func 66) [] []]) 4 5 (fun q:List AV×List AV=>h5 t q.1 q.2)
  (fun q=>⟨fun _ _=>rfl,fun _ _=>rfl,fun _ _=>rfl,fun _ _=>rfl,fun _ _=>rfl,fun _ _=>rfl,fun _ _=>⟨rfl,rfl,rfl⟩⟩) (fun q=>rfl)
  (fun d q K tl _ hq=>by
   have h:=ZGU t d q.1 q.2 (kM K::(tl++[.row 16 [d.enc]])) hq.1 hq.2;rw [ZNT,ZOj] at h;exact h)
  (fun d q K tl _=>⟨d.After.enc 1 encS,by
   have h:=ZGY d (h5 t q.1 q.2++kM K::tl);rw [RL];exact h,ZHE _ _ _⟩) id (ZL5 H)
end Go.AM
namespace Go.AM
open Go
def wkT (s:Sta) (id:Str):AV:=.clo (.func 121) [] [.iptr false [.str id],grA s]
def h4 (D E:List AV):List AObj:=[.row 2 [.agg [.isl false false 1 [],.isl false false 3 []]],.row 1 D,.row 3 E,.row 2 [.agg [.sl 1 D.length 0 D.length false,.sl 2 E.length 0 E.length false]]]
theorem ZHe (s:Sta) (id:Str) (D E:List AV) (H:Runs s [id] [id] [] [] D E):
 ∃ tl,rf rE (wkT s id) [20] c31R0a c31R0b (ffr (wkT s id)) (h4 [] [])=some (.normal,ffr (wkT s id),h4 D E++tl):=by
 obtain ⟨fr,tl,h⟩:=ZHd s (wkT s id) id D E H;refine ⟨.loop .exhausted .normal (ffr (wkT s id)) [20] c31R0a c31R0b::tl,?_⟩;unfold wkT;rw [Z1k (c:=c121) (rs:=[]) rfl];have h':Zb rE c121 (QP 0 ([]++[.yld (h4 [] []).length]++[.iptr false [.str id],grA s])) (h4 [] []++[.loop .ready .normal (ffr (wkT s id)) [20] c31R0a c31R0b])=_:=h;unfold wkT at h';rw [h'];rfl
def grC (s:Sta):List AV:=[.isl false false 6 (s.Regions.map Region.enc),.isl false false 5 (s.Streets.map Street.enc),.isl false false 4 (s.Buildings.map Building.enc),.isl false false 16 (s.Doors.map Door.enc),.isl false false 6 (s.Units.map Unit'.enc),.isl false false 2 (s.Merged.map Pair.enc),.isl false false 2 (s.Rulings.map Pair.enc)]
theorem ZHf (s:Sta) (id:Str) (h:Hp):fnV rE 67 [.agg (grC s++[.clo (.func 66) [] []]),.str id] h=some (.clo (.func 121) [] [.iptr false [.str id],.iptr false (grC s++[.clo (.func 66) [] []])],h):=by
 rw [Q6 (f:=67) rfl rfl];unfold grC;simp only [go_sem,qy,qq,c67,ZNT,ZNR,ZE5 (h:=h) rfl]
theorem ZHg (p0 p1 p2 p3:AObj) (tl:List AObj) (b:Bool):trimB 4 (p0::p1::p2::p3::tl) b=p0::p1::p2::p3::bif b then [] else tl:=by cases b<;>rfl
theorem ZHh {D D2:List AV} (hD:ZE7 69 [ZEa 69] 1 D=some D2) (p0 p2 p3:AObj) (tl:List AObj):
 rsD (rE.rs 68) (p0::.row 1 D::p2::p3::tl) [.sl 1 D.length 0 D.length false,.clo (.func 69) [] []]=some (.sl 1 D.length 0 D.length false,⟨false,[1],some 1,none⟩,some (1,.row 1 D2)):=by
 show ZEn (ZE7 69) _ _=_
 unfold ZEn ZE8;simp only [ZOu,ZOr,beq_self_eq_true,ZOi,cond_true];have hD':ZE7 69 [.clo (.func 69) [] []] 1 D=some D2:=hD;rw [hD'];rfl
theorem ZHi {E E2:List AV} (hE:ZEe 71 3 ZEf [ZEa 71] 3 E=some E2) (p0 p1 p3:AObj) (tl:List AObj):
 fnV rE 70 [.sl 2 E.length 0 E.length false,.clo (.func 71) [] []] (p0::p1::.row 3 E::p3::tl)=some (.sl 2 E.length 0 E.length false,p0::p1::.row 3 E2::p3::tl):=by
 rw [V8 (s:=ZEo (ZEe 71 3 ZEf)) rfl];unfold ZEo ZE8;simp only [ZOu,ZOr,beq_self_eq_true,ZOi,cond_true];have hE':ZEe 71 3 ZEf [.clo (.func 71) [] []] 3 E=some E2:=hE;rw [hE'];rfl
theorem ZHj {E:Env} {d:Option Nat} {r:List AOper} {u:List Nat} {us:List (List Nat)} {fr:Fr} {h:Hp} {recs:List DRec} {v:AV} {rc:DRec} {b:Nat} {o:AObj}:
 rkw E d r u us fr h recs (some (v,rc,some (b,o)))=okd recs u h rc (some (b,o)) (Zm E r us (ZB fr d v) (setH h b o) (recs++[rc])):=rfl
theorem ZHk {α:Type} {recs:List DRec} {p0 p1 o:AObj} {tl:List AObj} {d:DRec} {k:Option α}:okd recs [] (p0::p1::tl) d (some (1,o)) k=k:=Z9E rfl (ZOg (show 1≤(p0::p1::tl).length by simp))
theorem ZHl (p0 p1 p2 p3:AObj) (tl:List AObj) (b:Bool):trimB (tl.length+1+1+1+1) (p0::p1::p2::p3::tl) b=p0::p1::p2::p3::tl:=ZEx (by simp)
theorem ZFW (s:Sta) (id:Str) (D E D2 E2:List AV) (hc:pfn rE 65 [stA s,.str id]=some (I 0)) (H:Runs s [id] [id] [] [] D E) (hD:ZE7 69 [ZEa 69] 1 D=some D2) (hE:ZEe 71 3 ZEf [ZEa 71] 3 E=some E2) (hDl:D2.length=D.length) (hEl:E2.length=E.length) (hDc:Z4 D2=true) (hEc:Z4 E2=true):
 pfn rE 31 [stA s,.str id]=some (.tup [.agg [.isl false false 1 D2,.isl false false 3 E2],I 0]):=by
 obtain ⟨tl,hr⟩:=ZHe s id D E H;simp only [stA] at hc;simp only [wkT,grA,ffr,h4,AV.cells,ZNT,ZNR,ZNZ] at hr;have hw:=ZHf s id;simp only [grC,ZNT,ZNR] at hw;have b1:(D2.length==D.length)=true:=by rw [hDl];exact beq_self_eq_true _
 have b2:(E2.length==E.length)=true:=by rw [hEl];exact beq_self_eq_true _
 have t1:D2.take D.length=D2:=by rw [←hDl];exact ZO0
 have t2:E2.take E.length=E2:=by rw [←hEl];exact ZO0
 have f1:∀ h n,ZC false h (n+1) D2=some D2:=fun h n=>by simp only [ZC,hDc,cond_true]
 have f2:∀ h n,ZC false h (n+1) E2=some E2:=fun h n=>by simp only [ZC,hEc,cond_true]
 have f1:=fun h=>f1 h 34
 have f2:=fun h=>f2 h 33
 simp only [Nat.reduceAdd] at f1 f2;have h00:((0:Int) != 0)=false:=rfl;rw [Z5 (f:=31) rfl rfl];simp only [go_sem,qy,qq,qv,qk,reduceIte,c31,stA,hc,h00,hw,put,Sr,hr,ZHg,ZL4,ZHj,ZHk,ZHl,ZHh hD,ZHi hE,b1,b2,t1,t2,f1,f2]
end Go.AM
